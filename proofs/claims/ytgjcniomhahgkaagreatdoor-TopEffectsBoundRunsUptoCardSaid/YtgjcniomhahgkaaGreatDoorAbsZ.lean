/-
  The driver's rules for ranges over functions whose rounds end normally, and for functions that yield.
-/
import Derived.Test.YtgjcniomhahgkaaGreatDoorM4
import Derived.Test.YtgjcniomhahgkaaGreatDoorM1
set_option linter.unusedSimpArgs false
set_option linter.unusedVariables false
namespace Go.Abs
structure Ysp (P:Program) (l:Nat) {S X W:Type} (A:S→HA) (step:S→X→Option S) (e:X→W→Value) (F:X→W→List HA):Prop where
 free:∀ x g,∀ h∈F x g,Free h
 out:∀ s x g s',step s x=some s'→YG P l [e x g] (A s) (F x g) (A s')
structure Rdy (P:Program) (n l:Nat) (body:Code) {G:Type} (HN:G→List HA) (w0:World) (o0:Own) (Lf:Act→World→Prop):Prop where
 out:∀ V1 H1,(∀ w1 o1,Inr l w1 o1→Run (EnvR P n w1 o1 l HN none []) body [] V1 H1)→∀ a w,Rel (EnvA P n w0 o0 l) V1 H1 a w→Lf a w
section
variable {R : Type} {E : Env} {k : List KI} {L : List (Nat × Value)} {H H1 H2 : List HA}
structure DGN (k:List KI) (X:Option R) (g:Hn) (r:R) (E:Env) (L:List (Nat×Value)) (H:List HA):Prop where
 out:X=some r→Goes E k (VF.of L) H
theorem dgn {X:Option R} {g:Hn} {r:R} {L' : List (Nat×Value)} {H' : List HA} (hV:Nv L L') (hH:Nd H H') (h:DG k X g r E L' H'):DGN k X g r E L H:=⟨fun hx=>by rw [hV.eq,hH.eq]; exact h.out hx⟩
theorem zbC {S X W:Type} {A:S→HA} {step:S→X→Option S} {e:X→W→Value} {F:X→W→List HA} {l:Nat} {s:S} {x:X} {w:W} {kk:S→Option R} {g:Hn} {r:R} {ops:Array Oper} {rest:List Oper} {d:Nat} {fx xo:Operand} {Ts:Array TypeId} {ty:TypeId} {pos:String} {af:Array Edge} {gd:Option (Nat×Bool)} {u:Value} {i:Nat} {sh:List (Nat×Nat)}
  (hfx:(VF.of L).ev fx=some (.func (.yield l) #[] #[])) (hy:Ysp E.P l A step e F) (hx:(VF.of L).ev xo=some u) (he:u=e x w) (hs:Sx H (F x w) sh H1) (hz:(sh.all fun s=>Nat.beq s.2 0)=true) (hm:At H1 i (A s))
  (hw:Wants E.n ops (VF.of L) ⟨some d,.call ⟨.value fx,#[xo],Ts⟩,ty,pos,af,gd⟩) (hd:inB E.n (some d)=true)
  (hk:Al fun s'=>DM .o rest (kk s') g r E ops k ((d,.bool true)::L) (H1.set i (A s'))):DO .o (⟨some d,.call ⟨.value fx,#[xo],Ts⟩,ty,pos,af,gd⟩::rest) (obind (step s x) kk) g r E ops k L H:=⟨fun hX=>by
 obtain ⟨s',hq,hr⟩:=z1R hX
 refine ops_r (post:=fun v H'=>v = .bool true∧H'=H1.set i (A s')) hw hd ⟨fun c h=>by simp at h,fun ρ w0 o hf hb hs0=>?_⟩ ?_
 ·obtain ⟨o1,hb1,t1,hs1,hg⟩:=hs.free hz w0 o hb hs0
  have hop:=ziI (P:=E.P) (V:=VF.of L) (H:=H1++F x w) (d:=some d) (ty:=ty) (pos:=pos) (af:=af) (g:=gd) (Ts:=Ts) (xs:=#[xo]) i hfx (vs:=[e x w]) (by simp [hx,he]) (A:=A s) (A':=A s') (Fs:=F x w)
   (by rw [List.getElem?_append_left (List.getElem?_eq_some_iff.1 hm.get).1]; exact hm.get) (hy.free x w) (fun h hh=>.inr (by
    obtain ⟨j,hj,e⟩:=List.mem_iff_getElem.1 hh
    exact ⟨H1.length+j,by rw [List.getElem?_append_right (by omega)]; simp [hj,e]⟩)) (hy.out s x w s' hq)
  obtain ⟨l',f,tmps,assign,body,e1,hr1⟩:=hop.2 ρ w0 o1 hf hb1 (fun j h hj=>by
   rw [List.getElem?_append] at hj
   split at hj
   ·exact hs1 j h hj
   ·have hmem:=List.mem_of_getElem? hj
    exact (hg h hmem).1 w0 o1 o1 0 j (fun _ _ h=>h) (hg h hmem).2)
  refine ⟨l',f,tmps,assign,body,e1,hr1.mono ?_⟩
  rintro e2 w2 ⟨v,rfl,H',o2,⟨rfl,rfl⟩,hb2,t2,hs2⟩
  refine ⟨_,rfl,_,o2,⟨rfl,rfl⟩,hb2,t1.trans t2,fun j h hj=>hs2 j h ?_⟩
  have hlt:i<H1.length:=(List.getElem?_eq_some_iff.1 hm.get).1
  rw [List.set_append_left _ _ hlt]
  rw [List.getElem?_append_left ((List.getElem?_eq_some_iff.1 hj).1)]
  exact hj
 ·rintro v H' ⟨rfl,rfl⟩
  exact ((hk.out s').out hr)⟩
theorem zc3 {S X W:Type} {A:S→HA} {step:S→X→Option S} {e:X→W→Value} {F:X→W→List HA} {l:Nat} {s:S} {x:X} {w:W} {g:Hn} {r:S} {ops:Array Oper} {rest:List Oper} {d:Nat} {fx xo:Operand} {Ts:Array TypeId} {ty:TypeId} {pos:String} {af:Array Edge} {gd:Option (Nat×Bool)} {u:Value} {i:Nat} {sh:List (Nat×Nat)}
 (hfx:(VF.of L).ev fx=some (.func (.yield l) #[] #[])) (hy:Ysp E.P l A step e F) (hx:(VF.of L).ev xo=some u) (he:u=e x w) (hs:Sx H (F x w) sh H1) (hz:(sh.all fun s=>Nat.beq s.2 0)=true) (hm:At H1 i (A s))
 (hw:Wants E.n ops (VF.of L) ⟨some d,.call ⟨.value fx,#[xo],Ts⟩,ty,pos,af,gd⟩) (hd:inB E.n (some d)=true)
 (hk:Al fun s'=>DM .o rest (some s') g r E ops k ((d,.bool true)::L) (H1.set i (A s'))):DO .o (⟨some d,.call ⟨.value fx,#[xo],Ts⟩,ty,pos,af,gd⟩::rest) (step s x) g r E ops k L H:=⟨fun hX=>(zbC (kk:=some) hfx hy hx he hs hz hm hw hd hk).out (by rw [hX]; rfl)⟩
theorem zft {S X:Type} {A:S→HA} {step:S→X→Option S} {e:X→Value×Value×Value→Value} {F:X→Value×Value×Value→List HA} {l:Nat} {s:S} {x:X} {w1 w2 w3:Value} {kk:S→Option R} {g:Hn} {r:R} {ops:Array Oper} {rest:List Oper} {d:Nat} {fx xo:Operand} {Ts:Array TypeId} {ty:TypeId} {pos:String} {af:Array Edge} {gd:Option (Nat×Bool)} {u:Value} {i:Nat} {sh:List (Nat×Nat)}
 (hfx:(VF.of L).ev fx=some (.func (.yield l) #[] #[])) (hy:Ysp E.P l A step e F) (hx:(VF.of L).ev xo=some u) (he:u=e x (w1,w2,w3)) (hs:Sx H (F x (w1,w2,w3)) sh H1) (hz:(sh.all fun s=>Nat.beq s.2 0)=true) (hm:At H1 i (A s))
 (hw:Wants E.n ops (VF.of L) ⟨some d,.call ⟨.value fx,#[xo],Ts⟩,ty,pos,af,gd⟩) (hd:inB E.n (some d)=true)
 (hk:Al fun s'=>DM .o rest (kk s') g r E ops k ((d,.bool true)::L) (H1.set i (A s'))):DO .o (⟨some d,.call ⟨.value fx,#[xo],Ts⟩,ty,pos,af,gd⟩::rest) (obind (step s x) kk) g r E ops k L H:=zbC (w:=(w1,w2,w3)) hfx hy hx he hs hz hm hw hd hk
theorem zdC {S X:Type} {A:S→HA} {step:S→X→Option S} {e:X→Value×Value×Value→Value} {F:X→Value×Value×Value→List HA} {l:Nat} {s:S} {x:X} {w1 w2 w3:Value} {g:Hn} {r:S} {ops:Array Oper} {rest:List Oper} {d:Nat} {fx xo:Operand} {Ts:Array TypeId} {ty:TypeId} {pos:String} {af:Array Edge} {gd:Option (Nat×Bool)} {u:Value} {i:Nat} {sh:List (Nat×Nat)}
 (hfx:(VF.of L).ev fx=some (.func (.yield l) #[] #[])) (hy:Ysp E.P l A step e F) (hx:(VF.of L).ev xo=some u) (he:u=e x (w1,w2,w3)) (hs:Sx H (F x (w1,w2,w3)) sh H1) (hz:(sh.all fun s=>Nat.beq s.2 0)=true) (hm:At H1 i (A s))
 (hw:Wants E.n ops (VF.of L) ⟨some d,.call ⟨.value fx,#[xo],Ts⟩,ty,pos,af,gd⟩) (hd:inB E.n (some d)=true)
 (hk:Al fun s'=>DM .o rest (some s') g r E ops k ((d,.bool true)::L) (H1.set i (A s'))):DO .o (⟨some d,.call ⟨.value fx,#[xo],Ts⟩,ty,pos,af,gd⟩::rest) (step s x) g r E ops k L H:=zc3 (w:=(w1,w2,w3)) hfx hy hx he hs hz hm hw hd hk
inductive Hy (S G:Type) (H:List HA):List Hc→(S→G→List HA)→Prop
 | z:Hy S G H [] (fun _ _=>[])
 | y {a i:Nat} {T:Type} {A:T→HA} {t:T} {p:S→T} {cs:List Hc} {F:S→G→List HA} (h:At H i (A t)) (hp:Pj a S T p) (r:Hy S G H cs F):Hy S G H (.w a i::cs) (fun s γ=>A (p s)::F s γ)
 | s {c:Hc} {cs:List Hc} {f:S→G→HA} {F:S→G→List HA} (h:Hh S G H c f) (r:Hy S G H cs F):Hy S G H (c::cs) (fun s γ=>f s γ::F s γ)
section
variable {S : Type} {VN : S → Unit → List (Nat × Value)} {HN : S → Unit → List HA} {ts : List Nat} {ss : List (Nat × Cc)} {hs : List Hc} {a b : Hn} {out : R}
theorem dr_ly {step:S→Option (Lp S R)} {n:Nat} {s0:S} {c:Code} (hV:Vw S Unit L ss ts VN) (hH:Hy S Unit H hs HN) (hl:∀ x∈VN s0 (),VF.of L x.1=some x.2) (hT:Turn H (HN s0 ()))
  (round:Al fun s=>Al fun γ=>∀ (o:Lp S R) (Lf:Act→World→Prop),Bk E VN HN o Lf→Lv o out→DN c (step s) a o E (.loop Lf::k) (VN s γ) (HN s γ)):DR (.loop c) (iter step n s0) (.l 0 ts ss hs a) out E k L H:=
 ⟨fun hx=>z9O hT (zbN hx () VN HN _ hl List.nodup_range (z7N _) fun s γ o hs Lf hL hst=>((round.out s).out γ o Lf ⟨hL⟩ ⟨hst⟩).out hs)⟩
theorem dr_jy {X:Option (Lp S R)} {kk:S→Option R} {x y:Code} (hV:Vw S Unit L ss ts VN) (hH:Hy S Unit H hs HN)
  (h1:∀ (o:Lp S R) (Lf:Act→World→Prop),Bk E VN HN o Lf→Lv o out→DR x X a o E (.loop Lf::k) L H)
  (h2:Al fun s=>Al fun γ=>DN y (kk s) b out E k (VN s γ) (HN s γ)):DR (.seq x y) (bindJ X kk) (.j 0 ts ss hs a b) out E k L H:=⟨fun hx=>by
 obtain ⟨o,ho,ha⟩:=z5D hx
 refine zcx (S×Unit) (fun σ=>VN σ.1 σ.2) (fun σ=>HN σ.1 σ.2) (fun σ=>o = .go σ.1) (fun Lf hL=>(h1 o Lf ⟨fun s γ hs=>hL (s,γ) hs⟩ ⟨fun r hr=>?_⟩).out ho) ?_
 ·subst hr; exact z78 ha
 ·rintro ⟨s,γ⟩ rfl
  exact ((h2.out s).out γ).out (z7n ha)⟩
theorem dr_rf {X W:Type} {e:X→W→Value} {F:X→W→List HA} {step:S→X→Option S} {fold:Option S} {s0:S} {kk:S→Option R} {gx:Operand} {gf:FuncId} {caps:List Value} {p:Tmp} {assign body:Code} {is:List Nat} {sh:List (Nat×Nat)} {Hc Gr:List HA}
  (hg:(VF.of L).ev gx=some (.func (.func gf) #[] caps.toArray)) (hH:Hy S Unit H hs HN)
  (hit:∀ l A,Ysp E.P l A step e F→∀ r,fold=some r→Meets E.P gf (.func (.yield l) #[] #[]::caps) (A s0::Hc) (fun v G=>v = .tuple #[]∧G=A r::Gr))
  (hF:∀ x g,∀ h∈F x g,Free h)
  (hcall:∀ args w,(callFunc gf args).run E.P w = .ok (.enter gf args) w) (hE:∀ l0,E.r=some l0→Inr l0 E.w0 E.o0) (hnd:E.r=none→E.nd=false) (hpn:Nat.blt p E.n=true)
  (hp1:Sp H (HN s0 ()) is H1) (hp2:Picks is H1 (HN s0 ())) (hn:is.Nodup) (hN:Nd (zX (is.map fun i=>(i,2)) H1) H2) (hsx:Sx H2 Hc sh H2) (hsh:z4H H2 sh Hc) (hok:okX ((H1.length,2)::sh)=true) (hst:(sh.all fun s=>s.2 != 1)=true)
  (round:Al fun s=>Al fun x=>Al fun g=>∀ s' l w0 o0 Lf,Inr l w0 o0→Rdy E.P E.n l body (HN s') w0 o0 Lf→DN assign (step s x) a s' (EnvA E.P E.n w0 o0 l) [.loop Lf] ((p,e x g)::L) (HN s ()++F x g))
  (hgo:Al fun q=>DGN k (kk q) b out E L (zX sh H2++Gr++HN q ())):DR (.rangeFunc gx #[p] assign body) (obind fold kk) (.j 0 ts ss hs a b) out E k L H:=⟨fun hx=>by
 obtain ⟨q,hq,hr⟩:=z1R hx
 refine z9O hp1.turn ?_
 refine zaR (S:=S) (X:=X×W) (G:=Unit) (ps:=[p]) (caps:=caps) (Hs:=HN) (step:=fun s x=>step s x.1) (Fs:=fun x=>F x.1 x.2) (fun x=>[e x.1 x.2]) s0 () is sh (Hc:=Hc) (Gr:=Gr) (r:=q) hE hg hcall (fun _=>rfl) (by simp [hpn]) hn hp2 (fun x=>hF x.1 x.2) ?_ ?_ (by rw [hN.eq]; exact hsh) (by rw [hok]) hst ?_ hnd
 ·intro l s x s' hst' g w0 o0 Lf hi hL
  exact ((((round.out s).out x.1).out x.2) s' l w0 o0 Lf hi ⟨hL⟩).out hst'
 ·intro l A hy
  exact hit l A ⟨hF,fun s x g s' h=>hy s (x,g) s' h⟩ q hq
 ·intro g
  have h:=(hgo.out q).out hr
  rw [hN.eq]
  exact h⟩
theorem zhy {P:Program} {n l:Nat} {body:Code} {G:Type} {HM:G→List HA} {w0:World} {o0:Own} {Lf:Act→World→Prop} {X:Option R} {g:Hn} {r:R} (hr:Rdy P n l body HM w0 o0 Lf) (h:∀ w1 o1,Inr l w1 o1→DR body X g r (EnvR P n w1 o1 l HM none []) [] L H) :
 DG (.loop Lf::k) X g r (EnvA P n w0 o0 l) L H:=⟨fun hx a w q=>hr.out _ _ (fun w1 o1 hi=>(h w1 o1 hi).out hx) a w q⟩
theorem zhx {P:Program} {n l:Nat} {w1:World} {o1:Own} {s1 s' : S} {g:Hn} (hT:Turn H (HN s1 ())):DG [] (some s1) g s' (EnvR P n w1 o1 l (HN s') none []) L H:=⟨fun hx=>by
 obtain rfl:=z4N hx
 exact z9n hT (zeA () (List.range _) List.nodup_range (z7N _) rfl)⟩
theorem zfp {P:Program} {n l:Nat} {w1:World} {o1:Own} {HM:Value→List HA} {r s1:S} {v1:Value} {g:Hn} (h:r=s1→Turn H (HM v1)):DG [] (some s1) g r (EnvR P n w1 o1 l HM none []) L H:=⟨fun hx=>z9n (h (z4N hx).symm) (zeA v1 (List.range _) List.nodup_range (z7N _) rfl)⟩
end
theorem cit {P:Program} {f:Nat} {az:List Value} {Hc:List HA} {post:Post} (v:Nat) {K:Prop} (c:Con P f v K) (h:K→Meets P f az Hc post):Meets P f az Hc post:=h c.out
theorem cic {P:Program} {f:Nat} (v:Nat) {K:Prop} (c:Con P f v K):∀ args w,(callFunc f args).run P w = .ok (.enter f args) w:=c.call
theorem ein_n (h:E.r=none):∀ l0,E.r=some l0→Inr l0 E.w0 E.o0:=fun l0 h0=>by rw [h] at h0; cases h0
theorem ein_s {l:Nat} (h:E.r=some l) (hi:Inr l E.w0 E.o0):∀ l0,E.r=some l0→Inr l0 E.w0 E.o0:=fun l0 h0=>by rw [h] at h0; cases h0; exact hi
theorem zdR:∀ h∈([]:List HA),Free h:=fun h hh=>by simp at hh
theorem zi7 {a:HA} {l:List HA} (ha:Free a) (hl:∀ h∈l,Free h):∀ h∈a::l,Free h:=fun h hh=>by
 rcases List.mem_cons.1 hh with rfl | hh
 ·exact ha
 ·exact hl h hh
def IsSl (v:Value) (n:Nat):Prop:=0<n→∃ b off cap,v = .slice (some ⟨b,off,none⟩) n cap
section
variable {T el : TypeId} {x y : Operand} {v : Value} {kd : IntKind} {es : Nat} {ty : TypeId} {pos : String} {af : Array Edge} {gd : Option (Nat × Bool)} {X : Option R} {g : Hn} {r : R}
theorem zkf {α:Type} {F:α→List Value} {l:List α} {i id:Nat} {q:Array Oper} (hm:At H i (row v es (l.map F))) (h:IsSl v l.length→DR (.region id q true) X g r E k L H):DR (.region id q true) X (.s g) r E k L H:=⟨fun hx a w rel=>by
 have hi:IsSl v l.length:=by
  intro hn
  obtain ⟨_,_,_,o,hb,ht,hs⟩:=rel
  obtain ⟨_,b,off,cap,e1,_⟩:=(z6z.is w o i (hs i _ hm.get)).elem (List.getElem?_eq_getElem (i:=0) (by rw [List.length_map]; exact hn))
  exact ⟨b,off,cap,by simpa using e1⟩
 exact (h hi).out hx a w rel⟩
theorem y_ixh {P:Program} {V:VF} {n i:Nat} {d:Option Nat} (hu:∀ w,(underlying T).run P w = .ok (.slice el) w) (hz:∀ w,(sizeOf el).run P w = .ok es w) (hx:V.ev x=some v) (hy:V.ev y=some (.int kd i)) (hs:IsSl v n) (hn:i<n) :
  OpY P ⟨d,.indexAddr T x y,ty,pos,af,gd⟩ V H (elemP v (i*es)):=by
 intro ρ w o hf _ _
 obtain ⟨b,off,cap,e1⟩:=hs (by omega)
 subst e1
 have ha:(Addr.add ⟨b,off,none⟩ (i*es))=⟨b,off+i*es,none⟩:=by
  unfold Addr.add; split
  ·rename_i h0; rw [h0]; rfl
  ·rfl
 simp [execOp,hf x _ hx,hf y _ hy,Instr.indexAt,asIntOf,hu,hz,elemP,Value.sbase,ha,hn]
theorem zmJ {α:Type} {ll:List α} {q:Int} {kk:α→Option R} {d:Nat} {m m' : Md} {Hg:List HA} {ops:Array Oper} {rest:List Oper} (hn:Ny m m' H Hg) (hk:∀ a,ll[q.toNat]? = some a→0≤q→q.toNat<ll.length→DO m' rest (kk a) g r E ops k ((d,elemP v (q.toNat*es))::L) H) (hx:(VF.of L).ev x=some v) (hy:(VF.of L).ev y=some (.int kd q)) (hu:∀ w,(underlying T).run E.P w = .ok (.slice el) w) (hz:∀ w,(sizeOf el).run E.P w = .ok es w) (hs:IsSl v ll.length)
  (hw:Wants E.n ops (VF.of L) ⟨some d,.indexAddr T x y,ty,pos,af,gd⟩) (hd:inB E.n (some d)=true):DO m (⟨some d,.indexAddr T x y,ty,pos,af,gd⟩::rest) (idx ll q kk) g r E ops k L H:=
 ⟨fun hX=>let ⟨a,h0,h1,h2,h3⟩:=z8U hX; wk_y hn hw hd (y_ixh hu hz hx (by rw [hy,Int.toNat_of_nonneg h0]) hs h1) ((hk a h2 h0 h1).out h3)⟩
theorem zia {α:Type} {l:List α} {i:Nat} {a:α} (h:IsSl v l.length):IsSl v (l.set i a).length:=by rw [List.length_set]; exact h
theorem dg_bf {S' : Type} {Lf:Act→World→Prop} {s:S'} {kk:S'→Option R} (h:DG (.loop Lf::k) (kk s) g r E L H):DG (.loop Lf::k) (bindJ (some (.go s)) kk) g r E L H:=⟨fun hx=>h.out hx⟩
theorem dr_c1 {S' : Type} {o:Operand} {c1 c2:Code} {s:S'} {kk:S'→Option R} (h:DR (.cond o c1 c2) (kk s) g r E k L H):DR (.cond o c1 c2) (bindJ (some (.go s)) kk) g r E k L H:=⟨fun hx=>h.out hx⟩
theorem dr_c2 {S' S2:Type} {o:Operand} {c1 c2:Code} {s:S'} {k1:S'→Option (Lp S2 R)} {kk:S2→Option R} (h:DR (.cond o c1 c2) (bindJ (k1 s) kk) g r E k L H):DR (.cond o c1 c2) (bindJ (bindJ (some (.go s)) k1) kk) g r E k L H:=⟨fun hx=>h.out hx⟩
theorem dg_cf {X Y:Option R} (h:DG k Y g r E L H):DG k (cond false X Y) g r E L H:=⟨fun hx=>h.out hx⟩
theorem dg_ct {X Y:Option R} (h:DG k X g r E L H):DG k (cond true X Y) g r E L H:=⟨fun hx=>h.out hx⟩
end
end
class NewB (S:Type) where
 c:S→Value→Value→Value→Value→Value→List Value
 r:S→Value→Value→Value→Value→Value→List HA
section
variable {S R : Type} [NewB S] {E : Env} {k : List KI} {L : List (Nat × Value)} {H : List HA} {ts : List Nat} {hs : List Hc} {a b : Hn} {out : R}
abbrev G6:=Nat×Value×Value×Value×Value×Value
theorem dr_jb {t:Nat} {cc:Cc} {VK:Unit→Unit→List (Nat×Value)} {HK:Unit→Unit→List HA} {X:Option (Lp S R)} {kk:S→Option R} {x y:Code} (hV:Vw Unit Unit L [] ts VK) (hH:Hw Unit Unit H hs HK)
  (h1:∀ (o:Lp S R) (Lf:Act→World→Prop),Bk E (fun s (γ:G6)=>(t,boxP γ.1 0)::VK () ()) (fun s (γ:G6)=>box γ.1 (NewB.c s γ.2.1 γ.2.2.1 γ.2.2.2.1 γ.2.2.2.2.1 γ.2.2.2.2.2)::(NewB.r s γ.2.1 γ.2.2.1 γ.2.2.2.1 γ.2.2.2.2.1 γ.2.2.2.2.2++HK () ())) o Lf→Lv o out→DR x X a o E (.loop Lf::k) L H)
  (h2:∀ (s:S) (b' : Nat) (v1 v2 v3 v4 v5:Value),DN y (kk s) b out E k ((t,boxP b' 0)::VK () ()) (box b' (NewB.c s v1 v2 v3 v4 v5)::(NewB.r s v1 v2 v3 v4 v5++HK () ()))):DR (.seq x y) (bindJ X kk) (.j 100 ts [(t,cc)] hs a b) out E k L H:=⟨fun hx=>by
 obtain ⟨o,ho,ha⟩:=z5D hx
 refine zcx (S×G6) (fun σ=>(t,boxP σ.2.1 0)::VK () ()) (fun σ=>box σ.2.1 (NewB.c σ.1 σ.2.2.1 σ.2.2.2.1 σ.2.2.2.2.1 σ.2.2.2.2.2.1 σ.2.2.2.2.2.2)::(NewB.r σ.1 σ.2.2.1 σ.2.2.2.1 σ.2.2.2.2.1 σ.2.2.2.2.2.1 σ.2.2.2.2.2.2++HK () ())) (fun σ=>o = .go σ.1) (fun Lf hL=>(h1 o Lf ⟨fun s γ hs=>hL (s,γ) hs⟩ ⟨fun r hr=>?_⟩).out ho) ?_
 ·subst hr; exact z78 ha
 ·rintro ⟨s,b',v1,v2,v3,v4,v5⟩ rfl
  exact (h2 s b' v1 v2 v3 v4 v5).out (z7n ha)⟩
end
theorem dg_gb {S R:Type} [NewB S] {E:Env} {k:List KI} {L:List (Nat×Value)} {H:List HA} {b' : Nat} {v1 v2 v3 v4 v5:Value} {VN:S→G6→List (Nat×Value)} {HN:S→G6→List HA} {g:Hn} {o:Lp S R} {s:S} {Lf:Act→World→Prop} (hb:Bk E VN HN o Lf) (hl:∀ x∈VN s (b',v1,v2,v3,v4,v5),VF.of L x.1=some x.2) (hT:Turn H (HN s (b',v1,v2,v3,v4,v5))):DG (.loop Lf::k) (some (.go s)) g o E L H:=dg_go (γ:=(b',v1,v2,v3,v4,v5)) hb hl hT
structure Df {α:Type} (C:NC α) (v:Value) (x:α) (g:C.G) (S:List HA):Prop where
 e:v = .agg (C.F x g).toArray
 s:C.S x g=S
inductive Apd:List HA→List HA→List HA→Prop
 | z {G:List HA}:Apd [] G G
 | s {h:HA} {S G G' : List HA} (hQ:Apd S G G'):Apd (h::S) G (h::G')
theorem Apd.eq {S G G' : List HA} (h:Apd S G G'):G'=S++G:=by
 induction h with
 | z=>rfl
 | s _ ih=>rw [ih]; rfl
inductive Lw {α:Type} (C:NC α):List Value→List (α×C.G)→List α→List HA→Prop
 | z:Lw C [] [] [] []
 | s {v:Value} {vs:List Value} {x:α} {g:C.G} {lg:List (α×C.G)} {xs:List α} {S G G' : List HA} (hR:Lw C vs lg xs G) (hD:Df C v x g S) (hA:Apd S G G'):Lw C (v::vs) ((x,g)::lg) (x::xs) G'
theorem Lw.ok {α:Type} {C:NC α} {vs:List Value} {lg:List (α×C.G)} {xs:List α} {G:List HA} (h:Lw C vs lg xs G):xs=lg.map (·.1)∧(∀ p∈lg,∀ h∈C.S p.1 p.2,h∈G)∧(∀ w o,(∀ g∈G,g.p w o 0)→∀ v∈vs,v.cells.size=C.es)∧C.cs lg=vs.map fun v=>v.cells.toList:=by
  induction h with
  | z=>exact ⟨rfl,fun p hp=>by simp at hp,fun _ _ _ v hv=>by simp at hv,rfl⟩
  | @s v vs x g lg xs S G G' _ hD hA ih =>
    obtain ⟨h1,h2,h3,h4⟩:=ih
    obtain ⟨e,hS⟩:=hD
    subst e
    have hG:=hA.eq
    refine ⟨by rw [List.map_cons,← h1],fun p hp q hq=>?_,fun w o hg v hv=>?_,?_⟩
    · rw [hG]
      rcases List.mem_cons.1 hp with rfl | hp
      · rw [hS] at hq; exact List.mem_append.2 (.inl hq)
      · exact List.mem_append.2 (.inr (h2 p hp q hq))
    · rcases List.mem_cons.1 hv with rfl | hv
      · have hk:=C.ok x g w o 0 (by rw [hS]; intro q hq; exact hg _ (by rw [hG]; exact List.mem_append.2 (.inl hq)))
        rw [← hk.1]; rfl
      · exact h3 w o (fun g hg'=>hg g (by rw [hG]; exact List.mem_append.2 (.inr hg'))) v hv
    · simp only [NC.cs,List.map_cons] at h4 ⊢
      rw [h4]; rfl
theorem zl2 {α:Type} {C:NC α} {lg:List (α×C.G)} {xs:List α} {G H1:List HA} {sh:List (Nat×Nat)} {P:Program} {V:VF} {H:List HA} {d n es:Nat} {ty:TypeId} {pos:String} {af:Array Edge} {gd:Option (Nat×Bool)} {T el:TypeId} {z:Value} {ps:List (Nat×Operand)} {vs:List Value}
  (hL:Lw C vs lg xs G) (hS:Sx H G sh H1) (h0:(sh.all fun s=>Nat.beq s.2 0)=true) (hu:∀ w,(underlying T).run P w = .ok (.slice el) w) (hz:∀ w,(sizeOf el).run P w = .ok es w) (hzv:∀ w,(zeroValue el).run P w = .ok z w) (he:C.es=es)
  (hp:Pz V ps 0 vs) (hn:vs.length=n) (hb1:n*es≤2 ^ 24) (hb2:n≤2 ^ 24):OpT P ⟨some d,.buildSlice T n ps.toArray,ty,pos,af,gd⟩ V H (fun v' H'=>H'=H1++[nrow v' C xs]):=by
 subst he
 intro ρ w o hf hbd hs
 obtain ⟨k1,k2,k3,k4⟩:=hL.ok
 obtain ⟨o',hb',t',hs'⟩:=hS.dup h0 w o hbd hs
 have hG:∀ g∈G,g.p w o' 0:=by
  obtain ⟨o2,_,_,hs2,_⟩:=hS.free h0 w o hbd hs
  intro g hg
  obtain ⟨j,hj⟩:=List.mem_iff_getElem?.1 hg
  have hfr:Free g:=(hS.free h0 w o hbd hs).choose_spec.2.2.2 g hg |>.1
  exact hfr.at _ _ _ _ (hs' (H1.length+j) g (by rw [List.getElem?_append_right (by omega)]; simpa using hj))
 have h:=t_lit (P:=P) (d:=some d) (ty:=ty) (pos:=pos) (af:=af) (g:=gd) (V:=V) (H:=H1++G) vs hu hz hzv hp.eq hb1 hb2 hn (k3 w o' hG) ρ w o' hf hb' hs'
 refine h.imp ?_
 rintro v' w' ⟨H',o2,⟨rfl,_⟩,b2,t2,s2⟩
 rw [← k4] at s2
 have hlen:(H1++G++[row v' C.es (C.cs lg)])[(H1++G).length]? = some (row v' C.es (C.cs lg)):=List.getElem?_concat_length
 obtain ⟨o3,b3,t3,s3⟩:=(zat (C:=C) (l:=xs) (H1++G).length lg hlen rfl k1 (fun p hp q hq=>by
  obtain ⟨j,hj⟩:=List.mem_iff_getElem?.1 (k2 p hp q hq)
  exact .inr ⟨H1.length+j,by
   have hjl:=(List.getElem?_eq_some_iff.1 hj).1
   rw [List.append_assoc,List.getElem?_append_right (by omega),List.getElem?_append_left (by omega)]; simpa using hj⟩)) w' o2 b2 s2
 rw [zeK] at s3
 obtain ⟨o4,b4,t4,s4⟩:=zdE H1 G (nrow v' C xs) w' o3 b3 s3
 exact ⟨_,o4,rfl,b4,(t'.trans t2).trans (t3.trans t4),s4⟩
theorem zjQ {R:Type} {gg:Hn} {X:Option R} {r:R} {E:Env} {k:List KI} {L:List (Nat×Value)} {H H1:List HA} {ops:Array Oper} {rest:List Oper} {m m' : Md} {α:Type} {C:NC α} {lg:List (α×C.G)} {xs:List α} {G:List HA} {sh:List (Nat×Nat)} {d n es:Nat} {ty:TypeId} {pos:String} {af:Array Edge} {gd:Option (Nat×Bool)} {T el:TypeId} {z:Value} {ps:List (Nat×Operand)} {vs:List Value}
  (ht:Etn el α C) (hn2:Nt m m') (hk:∀ v',DM m' rest X gg r E ops k ((d,v')::L) (H1++[nrow v' C xs])) (hu:∀ w,(underlying T).run E.P w = .ok (.slice el) w) (hz:∀ w,(sizeOf el).run E.P w = .ok es w) (h0:∀ w,(zeroValue el).run E.P w = .ok z w)
  (hp:Pz (VF.of L) ps 0 vs) (hL:Lw C vs lg xs G) (hS:Sx H G sh H1) (hsh:(sh.all fun s=>Nat.beq s.2 0)=true) (he:C.es=es) (hn:vs.length=n) (hb:(Nat.ble (n*es) (2 ^ 24) && Nat.ble n (2 ^ 24))=true)
  (hw:Wants E.n ops (VF.of L) ⟨some d,.buildSlice T n ps.toArray,ty,pos,af,gd⟩) (hd:inB E.n (some d)=true):DO m (⟨some d,.buildSlice T n ps.toArray,ty,pos,af,gd⟩::rest) X gg r E ops k L H:=⟨fun hX=>by
 simp only [Bool.and_eq_true] at hb
 refine wk_t hn2 hw hd (zl2 hL hS hsh hu hz h0 he hp hn (Nat.le_of_ble_eq_true hb.1) (Nat.le_of_ble_eq_true hb.2)) ?_
 rintro v' _ rfl
 exact (hk v').out hX⟩
theorem zmI {R α β:Type} {g:Hn} {r:R} {E:Env} {k:List KI} {L:List (Nat×Value)} {H H' : List HA} {ops:Array Oper} {rest:List Oper} {C:NC α} {l:List α} {v:Value} {i d d2:Nat} {T T2:TypeId} {x y:Operand} {ty ty2:TypeId} {pos pos2:String} {af af2:Array Edge} {gd gd2:Option (Nat×Bool)} {ll:List β} {q:Int} {kk:β→Option R}
 (hx:(VF.of L).ev x=some v) (hm:At H i (nrow v C l)) (hn:C.nn=true→l≠[]) (hS:St H i (nro v C l) H') (hk:DO .o (⟨some d,.indexAddr T x y,ty,pos,af,gd⟩::⟨some d2,.load T2 (.tmp d),ty2,pos2,af2,gd2⟩::rest) (idx ll q kk) g r E ops k L H') :
 DO .o (⟨some d,.indexAddr T x y,ty,pos,af,gd⟩::⟨some d2,.load T2 (.tmp d),ty2,pos2,af2,gd2⟩::rest) (idx ll q kk) g r E ops k L H:=⟨fun hX=>z7l (hS.eq ▸ zcf _ hm.get hn) (hk.out hX)⟩
theorem zdy {R α:Type} {X:Option R} {g:Hn} {r:R} {E:Env} {k:List KI} {L:List (Nat×Value)} {H:List HA} {ops:Array Oper} {rest:List Oper} {m m' : Md} {C:NC α} {l l2:List α} {i i2 d:Nat} {K:Value→List HA} {T T2 el e2:TypeId} {x y:Operand} {v vy z:Value} {ti:TypeInfo} {ty:TypeId} {pos:String} {af:Array Edge} {gd:Option (Nat×Bool)}
  (hn2:Nt m m') (hk:∀ v',l.length+l2.length≤4294967296→DM m' rest X g r E ops k ((d,v')::L) (K v'))
  (hx:(VF.of L).ev x=some v) (hm:At H i (nrow v C l)) (hy:(VF.of L).ev y=some vy) (hg:At H i2 (nrow vy C l2)) (hS:Sv H i (fun v'=>nrow v' C (l++l2)) K) (hne:Nat.beq i i2=false)
  (hu:∀ w,(underlying T).run E.P w = .ok (.slice el) w) (hu2:∀ w,(underlying T2).run E.P w = .ok (.slice e2) w) (hti:∀ w,(typeInfo el).run E.P w = .ok ti w) (hes:ti.size=C.es) (hby:(ti.bytes != 0 && Nat.ble ti.bytes 16384)=true) (h0:∀ w,(zeroValue el).run E.P w = .ok z w) (hzs:z.cells.size=C.es)
  (hw:Wants E.n ops (VF.of L) ⟨some d,.call ⟨.builtin .append,#[x,y],#[T,T2]⟩,ty,pos,af,gd⟩) (hd:inB E.n (some d)=true) :
  DO m (⟨some d,.call ⟨.builtin .append,#[x,y],#[T,T2]⟩,ty,pos,af,gd⟩::rest) (need (l.length+l2.length≤4294967296) X) g r E ops k L H:=⟨fun hX=>by
 obtain ⟨hn,hX⟩:=z39 hX
 simp only [Bool.and_eq_true,bne_iff_ne,ne_eq] at hby
 refine wk_t hn2 hw hd (zgf (C:=C) i i2 (Nat.ne_of_beq_eq_false hne) rfl hu rfl hu2 hti hes hby.1 (Nat.le_of_ble_eq_true hby.2) h0 hzs hx hm.get hy (ziB i2 hg.get) hn) ?_
 rintro v' _ rfl
 rw [hS.eq v']
 exact (hk v' hn).out hX⟩
theorem y_fnf {V:VF} {H:List HA} {P:Program} {d:Option Nat} {ty:TypeId} {pos:String} {af:Array Edge} {g:Option (Nat×Bool)} {T U:TypeId} {x:Operand} {f:Fn} {a b:Array Value} {ps rs:Array TypeId} {vr:Bool} (hx:V.ev x=some (.func f a b)) (hu:∀ w,(underlying T).run P w = .ok (.func ps rs vr) w):OpY P ⟨d,.binOp .eql T x (.const .nilFunc) U,ty,pos,af,g⟩ V H (.bool false):=zlK false hu hx (.inr ⟨⟨_,_,_,rfl⟩,rfl⟩)
theorem y_fnn {V:VF} {H:List HA} {P:Program} {d:Option Nat} {ty:TypeId} {pos:String} {af:Array Edge} {g:Option (Nat×Bool)} {T U:TypeId} {x:Operand} {ps rs:Array TypeId} {vr:Bool} (hx:V.ev x=some .nilFunc) (hu:∀ w,(underlying T).run P w = .ok (.func ps rs vr) w):OpY P ⟨d,.binOp .eql T x (.const .nilFunc) U,ty,pos,af,g⟩ V H (.bool true):=zlK true hu hx (.inl ⟨rfl,rfl⟩)
theorem spz {H G H1:List HA} {is:List Nat} (h:Sp H G is H1:=by
 (repeat (first
  | with_reducible exact Sp.z
  | ((with_reducible apply Sp.nnw); (case a=>exact apx))
  | ((with_reducible apply Sp.nw); (case a=>exact apx))
  | ((with_reducible apply Sp.d); (case f=>with_reducible exact z5u); (case h=>exact atx); (case a=>exact apx))
  | ((with_reducible apply Sp.d); (case f=>with_reducible exact z47); (case h=>exact atx); (case a=>exact apx))
  | ((with_reducible apply Sp.s); (case h=>exact atx))
  | ((with_reducible apply Sp.f); (case h=>exact atx); (case s=>exact stx))
  | ((with_reducible apply Sp.fn); (case h=>exact atx); (case hn=>exact fun h=>absurd h (by decide)); (case s=>exact stx))
  | ((apply Sp.no); (case a=>exact apx))
  | ((apply Sp.nno); (case a=>exact apx))
  | ((with_reducible apply Sp.s); (case h=>exact aty)))); (first | done | fail)):Sp H G is H1:=h
theorem sup2 {H G:List HA} (h:Turn H G:=by ((apply sup'); (case h=>exact spz); (case hp=>exact rfl); (case hn=>decide); (first | done | fail))):Turn H G:=h
theorem sxz {H G H1:List HA} {sh:List (Nat×Nat)} (h:Sx H G sh H1:=by
 (repeat (first
  | with_reducible exact Sx.z
  | ((with_reducible apply Sx.nnw); (case a=>exact apx))
  | ((with_reducible apply Sx.nw); (case a=>exact apx))
  | ((with_reducible apply Sx.v); (case f=>with_reducible apply z5u); (case h=>exact atx))
  | ((with_reducible apply Sx.v); (case f=>with_reducible apply z47); (case h=>exact atx))
  | ((with_reducible apply Sx.v); (case f=>with_reducible exact z8z); (case h=>exact atx))
  | ((with_reducible apply Sx.l); (case h=>exact atx))
  | ((with_reducible apply Sx.f); (case h=>exact atx); (case s=>exact stx))
  | ((with_reducible apply Sx.fn); (case h=>exact atx); (case hn=>exact fun h=>absurd h (by decide)); (case s=>exact stx))
  | ((with_reducible apply Sx.ks); (case h=>exact atx))
  | ((apply Sx.nw); (case a=>exact apx))
  | ((apply Sx.no); (case a=>exact apx))
  | ((apply Sx.nnw); (case a=>exact apx))
  | ((apply Sx.nno); (case a=>exact apx))
  | ((with_reducible apply Sx.l); (case h=>exact aty))
  | ((apply Sx.q); (case f=>infer_instance); (case a=>exact apx)))); (first | done | fail)):Sx H G sh H1:=h
theorem zjI {R:Type} {k:List KI} {g:Hn} {r:R} {E:Env} {L:List (Nat×Value)} {H:List HA}:DG k none g r E L H:=⟨fun hx=>by cases hx⟩
section
variable {R : Type} {E : Env} {k : List KI} {L : List (Nat × Value)} {H : List HA} {X : Option R} {g : Hn} {r : R}
theorem zhR {c:Code} (h:DR c X g r E (.loop (Code.roundsIn (FR E.r) 0 E.P c (Qof E k) 60)::k) L H):DR (.loop c) X g r E k L H:=⟨fun hx=>zg6 60 (h.out hx)⟩
theorem zhA {c:Code} {n:Nat} (h:DR c X g r E (.loop (Code.roundsIn (FR E.r) 0 E.P c (Qof E k) n)::k) L H):DG (.loop (Code.roundsIn (FR E.r) 0 E.P c (Qof E k) (n+1))::k) X g r E L H:=⟨fun hx=>ze0 (h.out hx)⟩
theorem dr_tk {o:Operand} {x y:Code} {b:Bool} (hc:(VF.of L).ev o=some (.bool b)) (hb:b=true) (h:DR x X g r E k L H):DR (.cond o x y) X g r E k L H:=⟨fun hx=>z7f (hb ▸ hc) (h.out hx)⟩
theorem dr_fk {o:Operand} {x y:Code} {b:Bool} (hc:(VF.of L).ev o=some (.bool b)) (hb:b=false) (h:DR y X g r E k L H):DR (.cond o x y) X g r E k L H:=⟨fun hx=>z8J (hb ▸ hc) (h.out hx)⟩
def elemK (v:Value) (i es:Nat):Value:=elemP v (i*es)
variable {ops : Array Oper} {rest : List Oper} {m m' : Md} {Hg : List HA} {d es : Nat} {T el : TypeId} {x y : Operand} {v : Value} {kd : IntKind} {ty : TypeId} {pos : String} {af : Array Edge} {gd : Option (Nat × Bool)} {cells : List (List Value)}
theorem zmK {q:Int} {i j:Nat} (hn:Ny m m' H Hg) (hx:(VF.of L).ev x=some v) (hm:At Hg j (row v es cells)) (hy:(VF.of L).ev y=some (.int kd q)) (hi:q.toNat=i) (hq:(decide (0≤q) && Nat.blt q.toNat cells.length)=true) (hu:∀ w,(underlying T).run E.P w = .ok (.slice el) w) (hz:∀ w,(sizeOf el).run E.P w = .ok es w)
  (hw:Wants E.n ops (VF.of L) ⟨some d,.indexAddr T x y,ty,pos,af,gd⟩) (hd:inB E.n (some d)=true) (hk:DO m' rest X g r E ops k ((d,elemK v i es)::L) H):DO m (⟨some d,.indexAddr T x y,ty,pos,af,gd⟩::rest) X g r E ops k L H:=⟨fun hX=>by
 subst hi
 simp only [Bool.and_eq_true,decide_eq_true_eq,Nat.blt_eq] at hq
 exact wk_y hn hw hd (z8t j hu hz hx hy hm.get z6z hq.1 hq.2) (hk.out hX)⟩
theorem zmP {i j:Nat} {c:List Value} (hn:Ny m m' H Hg) (hx:(VF.of L).ev x=some (elemK v i es)) (hm:At Hg j (row v es cells)) (hc:cells[i]? = some c) (ha:∀ w,(isAgg T).run E.P w = .ok true w) (hz:∀ w,(sizeOf T).run E.P w = .ok es w)
  (hw:Wants E.n ops (VF.of L) ⟨some d,.load T x,ty,pos,af,gd⟩) (hd:inB E.n (some d)=true) (hk:DO m' rest X g r E ops k ((d,.agg c.toArray)::L) H):DO m (⟨some d,.load T x,ty,pos,af,gd⟩::rest) X g r E ops k L H:=
 ⟨fun hX=>wk_y hn hw hd (za1 j ha hz hx hm.get z6z hc) (hk.out hX)⟩
inductive Lvl (es:Nat):List Value→List (List Value)→Prop
 | z:Lvl es [] []
 | s {c:List Value} {vs:List Value} {cs:List (List Value)} (hl:c.length=es) (r:Lvl es vs cs):Lvl es (.agg c.toArray::vs) (c::cs)
theorem Lvl.eq {vs:List Value} {cs:List (List Value)} (h:Lvl es vs cs):vs.map (fun v=>v.cells.toList)=cs∧∀ v∈vs,v.cells.size=es:=by
  induction h with
  | z=>exact ⟨rfl,by simp⟩
  | s hl _ ih => exact ⟨by rw [List.map_cons, ih.1]; rfl, fun v hv => by
      rcases List.mem_cons.1 hv with rfl | hv
      · simpa [Value.cells] using hl
      · exact ih.2 v hv⟩
theorem zjR {n:Nat} {z:Value} {ps:List (Nat×Operand)} {vs:List Value} (hn2:Nt m m') (hk:∀ v',DM m' rest X g r E ops k ((d,v')::L) (H++[row v' es cells])) (hu:∀ w,(underlying T).run E.P w = .ok (.slice el) w) (hz:∀ w,(sizeOf el).run E.P w = .ok es w) (h0:∀ w,(zeroValue el).run E.P w = .ok z w)
  (hp:Pz (VF.of L) ps 0 vs) (hD:Lvl es vs cells) (hn:vs.length=n) (hb:(Nat.ble (n*es) (2 ^ 24) && Nat.ble n (2 ^ 24))=true)
  (hw:Wants E.n ops (VF.of L) ⟨some d,.buildSlice T n ps.toArray,ty,pos,af,gd⟩) (hd:inB E.n (some d)=true):DO m (⟨some d,.buildSlice T n ps.toArray,ty,pos,af,gd⟩::rest) X g r E ops k L H:=⟨fun hX=>by
 simp only [Bool.and_eq_true] at hb
 refine wk_t hn2 hw hd (t_lit vs hu hz h0 hp.eq (Nat.le_of_ble_eq_true hb.1) (Nat.le_of_ble_eq_true hb.2) hn hD.eq.2) ?_
 rintro v' _ ⟨rfl,_⟩
 rw [hD.eq.1]
 exact (hk v').out hX⟩
end
end Go.Abs
