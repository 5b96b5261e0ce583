/-
  Texts that stand side by side: TmG, TmH, TcPz, TcPp, TcPl, TuB, TuC, TuD, TuE, WireNum, WireSpec, WireList, WireSane, WireTrip, TcPf, TcPg, TcPh, TcPi, TcPj, TcPk, TcPm.
-/
import Derived.Test.YtgjcniomhahgkaaGreatDoorM48
import Derived.Test.YtgjcniomhahgkaaGreatDoorAbsPlain
import Derived.Test.YtgjcniomhahgkaaGreatDoorTeDefs
import Derived.Test.YtgjcniomhahgkaaGreatDoorM0
set_option linter.unusedSimpArgs false
set_option linter.unusedVariables false
namespace Go.Proofs.YtgjcniomhahgkaaGreatDoor
open Go.Abs
mutual
def hasS (k:Int):z7→Prop
 | ⟨kind,_,_,_,_,b,e⟩=>kind=k∨hasB k b∨hasB k e
def hasB (k:Int):List z7→Prop
 | []=>False
 | s::r=>hasS k s∨hasB k r
end
def Ef (hk:Int→Prop) (o o' : zA):Prop:=(¬ hk 3→o'.Edge.Headers=o.Edge.Headers)∧(¬ hk 4→o'.Edge.Status=o.Edge.Status)∧(¬ hk 7→o'.Logs=o.Logs)∧(o.Logs.length≤100→o'.Logs.length≤100)
theorem Ef.refl {hk:Int→Prop} {o:zA}:Ef hk o o:=⟨fun _=>rfl,fun _=>rfl,fun _=>rfl,id⟩
theorem Ef.trans {h1 h2 hk:Int→Prop} {a b c:zA} (h:Ef h1 a b) (k:Ef h2 b c) (e1:∀ k,h1 k→hk k) (e2:∀ k,h2 k→hk k):Ef hk a c:=
 ⟨fun q=>(k.1 fun z=>q (e2 _ z)).trans (h.1 fun z=>q (e1 _ z)),fun q=>(k.2.1 fun z=>q (e2 _ z)).trans (h.2.1 fun z=>q (e1 _ z)),fun q=>(k.2.2.1 fun z=>q (e2 _ z)).trans (h.2.2.1 fun z=>q (e1 _ z)),fun q=>k.2.2.2 (h.2.2.2 q)⟩
theorem Ef.mono {h1 hk:Int→Prop} {a b:zA} (h:Ef h1 a b) (e1:∀ k,h1 k→hk k):Ef hk a b:=h.trans (Ef.refl (hk:=h1)) e1 e1
def Fk (hk:Int→Prop) (o:zA):Prop:=o.End=1∧hk 8∨o.End=2∧hk 9
def Rs (n:Nat) (m:zH) (most:Int) (z:Int) (C:List z6) (r:zi) (pos nv:Nat) (L:List Int) (w:Way) (s0:Nat) (o:zA) (hk:Int→Prop):Prop:=
 (∃ vs o' c,Sp n m most z r (rn C pos [] vs L o' (s0+c))∧vs.length=nv∧(∀ v∈vs,Vk v)∧InC w.on c∧Ef hk o o'∧o'.End=o.End∧o'.Edge.Headers.length≤10+(s0+c))∨
 (∃ o' c,Sp n m most z r (fin C o' (s0+c))∧InC w.en c∧Ef hk o o'∧Fk hk o'∧o'.Edge.Headers.length≤10+(s0+c))∨(∃ e c,Sp n m most z r (err C e (s0+c))∧Er e∧c≤w.M)
section
variable {n : Nat} {m : zH} {most : Int} {C : List z6} {r : zi} {pos nv : Nat} {L : List Int} {w : Way} {s0 : Nat} {o : zA} {hk : Int → Prop}
theorem Rs.bind {z z1 z2:Int} {p1 n1:Nat} {L1:List Int} {w1:Way} {h1 h2:Int→Prop} (h:Rs n m most z1 C r p1 n1 L1 w1 s0 o h1) (he:∀ c,InC w1.en c→InC w.en c) (hM:w1.M≤w.M) (e1:∀ k,h1 k→hk k) (e2:∀ k,h2 k→hk k)
  (k:∀ vs o' c,vs.length=n1→(∀ v∈vs,Vk v)→InC w1.on c→o'.Edge.Headers.length≤10+(s0+c)→Rs n m most z2 C (rn C p1 [] vs L1 o' (s0+c)) pos nv L w s0 o' h2) (hz:z1+z2≤z) (hz1:z1≤z):Rs n m most z C r pos nv L w s0 o hk:=by
 rcases h with ⟨vs,o',c,a1,a2,a3,a4,a5,a6,a7⟩ | ⟨o',c,a1,a2,a3,a4,a5⟩ | ⟨e,c,a1,a2,a3⟩
 ·rcases k vs o' c a2 a3 a4 a7 with ⟨vs2,o2,c2,b1,b2,b3,b4,b5,b6,b7⟩ | ⟨o2,c2,b1,b2,b3,b4,b5⟩ | ⟨e,c2,b1,b2,b3⟩
  ·exact .inl ⟨vs2,o2,c2,(a1.trans b1).le hz,b2,b3,b4,a5.trans b5 e1 e2,b6.trans a6,b7⟩
  ·exact .inr (.inl ⟨o2,c2,(a1.trans b1).le hz,b2,a5.trans b3 e1 e2,b4.imp (fun q=>⟨q.1,e2 _ q.2⟩) fun q=>⟨q.1,e2 _ q.2⟩,b5⟩)
  ·exact .inr (.inr ⟨e,c2,(a1.trans b1).le hz,b2,b3⟩)
 ·exact .inr (.inl ⟨o',c,a1.le hz1,he c a2,a3.mono e1,a4.imp (fun q=>⟨q.1,e1 _ q.2⟩) fun q=>⟨q.1,e1 _ q.2⟩,a5⟩)
 ·exact .inr (.inr ⟨e,c,a1.le hz1,a2,Nat.le_trans a3 hM⟩)
theorem Rs.after {z:Int} {v:Way} {c0:Nat} (h:Rs n m most z C r pos nv L v (s0+c0) o hk) (h0:InC w.on c0) (hv:v.NN) (hT:(w.seq v).M<TOP):Rs n m most z C r pos nv L (w.seq v) s0 o hk:=by
 rcases h with ⟨vs,o',c,a1,a2,a3,a4,a5,a6,a7⟩ | ⟨o',c,a1,a2,a3,a4⟩ | ⟨e,c,a1,a2,a3⟩
 ·exact .inl ⟨vs,o',c0+c,by rw [← Nat.add_assoc]; exact a1,a2,a3,znP h0 a4 hT,a5,a6,by omega⟩
 ·exact .inr (.inl ⟨o',c0+c,by rw [← Nat.add_assoc]; exact a1,znO h0 a2 hT,a3,a4.1,by have:=a4.2; omega⟩)
 ·refine .inr (.inr ⟨e,c0+c,by rw [← Nat.add_assoc]; exact a1,a2,?_⟩)
  have:=zcZ h0 hv hT
  omega
theorem Rs.pre {z1 z2 z:Int} {r0:zi} (hs:Sp n m most z1 r0 r) (h:Rs n m most z2 C r pos nv L w s0 o hk) (hz:z1+z2≤z):Rs n m most z C r0 pos nv L w s0 o hk:=by
 rcases h with ⟨vs,o',c,a1,a2⟩ | ⟨o',c,a1,a2⟩ | ⟨e,c,a1,a2⟩
 ·exact .inl ⟨vs,o',c,(hs.trans a1).le hz,a2⟩
 ·exact .inr (.inl ⟨o',c,(hs.trans a1).le hz,a2⟩)
 ·exact .inr (.inr ⟨e,c,(hs.trans a1).le hz,a2⟩)
theorem Rs.post {z1 z2 z:Int} {p2 nv2:Nat} {L2:List Int} (h:Rs n m most z1 C r pos nv L w s0 o hk) (k:∀ vs o' sp,vs.length=nv→(∀ v∈vs,Vk v)→sp≤s0+w.M→∃ vs',Sp n m most z2 (rn C pos [] vs L o' sp) (rn C p2 [] vs' L2 o' sp)∧vs'.length=nv2∧∀ v∈vs',Vk v) (hz:z1+z2≤z) (hz1:z1≤z):Rs n m most z C r p2 nv2 L2 w s0 o hk:=by
 rcases h with ⟨vs,o',c,a1,a2,a3,a4,a5,a6,a7⟩ | h | h
 ·have:=a4.le
  obtain ⟨vs',b1,b2,b3⟩:=k vs o' (s0+c) a2 a3 (by unfold Way.M; omega)
  exact .inl ⟨vs',o',c,(a1.trans b1).le hz,b2,b3,a4,a5,a6,a7⟩
 ·obtain ⟨o',c,a1,a2⟩:=h
  exact .inr (.inl ⟨o',c,a1.le hz1,a2⟩)
 ·obtain ⟨e,c,a1,a2⟩:=h
  exact .inr (.inr ⟨e,c,a1.le hz1,a2⟩)
theorem Rs.alt1 {z:Int} {v:Way} (h:Rs n m most z C r pos nv L w s0 o hk):Rs n m most z C r pos nv L (w.alt v) s0 o hk:=by
 have:=(alt_M w v).1
 rcases h with ⟨vs,o',c,a1,a2,a3,a4,a5⟩ | ⟨o',c,a1,a2,a3⟩ | ⟨e,c,a1,a2,a3⟩
 ·exact .inl ⟨vs,o',c,a1,a2,a3,a4.orL,a5⟩
 ·exact .inr (.inl ⟨o',c,a1,a2.orL,a3⟩)
 ·exact .inr (.inr ⟨e,c,a1,a2,by omega⟩)
theorem Rs.alt2 {z:Int} {v:Way} (h:Rs n m most z C r pos nv L w s0 o hk):Rs n m most z C r pos nv L (v.alt w) s0 o hk:=by
 have:=(alt_M v w).2
 rcases h with ⟨vs,o',c,a1,a2,a3,a4,a5⟩ | ⟨o',c,a1,a2,a3⟩ | ⟨e,c,a1,a2,a3⟩
 ·exact .inl ⟨vs,o',c,a1,a2,a3,a4.orR,a5⟩
 ·exact .inr (.inl ⟨o',c,a1,a2.orR,a3⟩)
 ·exact .inr (.inr ⟨e,c,a1,a2,by omega⟩)
theorem Rs.wk {z:Int} {hk2:Int→Prop} (h:Rs n m most z C r pos nv L w s0 o hk) (e:∀ k,hk k→hk2 k):Rs n m most z C r pos nv L w s0 o hk2:=by
 rcases h with ⟨vs,o',c,a1,a2,a3,a4,a5,a6⟩ | ⟨o',c,a1,a2,a3,a4⟩ | h
 ·exact .inl ⟨vs,o',c,a1,a2,a3,a4,a5.mono e,a6⟩
 ·exact .inr (.inl ⟨o',c,a1,a2,a3.mono e,a4.1.imp (fun q=>⟨q.1,e _ q.2⟩) fun q=>⟨q.1,e _ q.2⟩,a4.2⟩)
 ·exact .inr (.inr h)
theorem sp0 {x:z6} {st vs:List zj} {sp:Nat} {r' : zi} (cx:Cx n m most C) (hx:C[pos]? = some x) (h31:31≤x.Op) (h40:x.Op≠40) (hs:sp<1000000) (hd:Do n (mk C pos st vs L o sp) r') (hz:r'.Cpu.Spent=(sp:Int)):Sp n m most 1 (rn C pos st vs L o sp) r':=
 sp_do cx.hC hx (fun h=>absurd h h40) hs (.inl (cost0 h31 h40)) (by have:=cx.hm; omega) hd 1 (by omega)
theorem zie (s:z7):lastI s=if s.Kind=1∨s.Kind=2 then ⟨31,s.Slot,[]⟩ else if s.Kind=3 then ⟨32,0,s.Name⟩ else if s.Kind=4 then ⟨33,0,[]⟩ else if s.Kind=7 then ⟨34,0,[]⟩ else if s.Kind=8 then ⟨35,0,[]⟩ else ⟨36,0,[]⟩:=rfl
end
theorem zg4 {n:Nat} {m:zH} {most:Int} {C:List z6} (cx:Cx n m most C) (s:z7) (ts:List Int) (pos:Nat) (vs:List zj) (L:List Int) (o:zA) (sp:Nat) (hr:rE s.X ts) (hst:stF s.Kind s.Slot s.N s.Name s.X.Type_ ts) (h5:s.Kind≠5) (h6:s.Kind≠6)
    (hA:At C pos ([⟨30,0,[]⟩]++cE s.X++[lastI s])) (hts:vs.length=ts.length) (hv:∀ v∈vs,Vk v) (hl:ts.length≤200) (hx:s.X.nodes<20000) (hh:o.Edge.Headers.length≤10+sp) (hm:((sp+(wS s).M:Nat):Int)≤most) :
    Rs n m most 0 C (rn C pos [] vs L o sp) (pos+(1+(cE s.X).length+1)) (nextV s ts).length L (wS s) sp o (hasS · s):=by
  have hmost:=cx.hm
  have hkind:∀ k,s.Kind=k→hasS k s:=by cases s; intro k h; simp only [hasS]; exact .inl h
  have hw:(wS s).M=1+s.X.nodes∧(s.Kind=8∨s.Kind=9→InC (wS s).en (1+s.X.nodes))∧(¬ (s.Kind=8∨s.Kind=9)→InC (wS s).on (1+s.X.nodes)):=by
    rw [wS_eq,if_neg h6,if_neg h5]
    by_cases h:s.Kind=8∨s.Kind=9
    · rw [if_pos h]; exact ⟨by simp [Way.M,hi],fun _=>⟨_,rfl,Nat.le_refl _,Nat.le_refl _⟩,fun q=>absurd h q⟩
    · rw [if_neg h]; exact ⟨by simp [Way.M,hi,ex],fun q=>absurd q h,fun _=>ex_on _⟩
  obtain ⟨hM,hen,hon⟩:=hw
  rw [hM] at hm
  have hA1:=hA.left.left
  have hA2:=hA.left.right
  have hA3:=hA.right
  rw [List.length_append,List.length_singleton] at hA3
  rw [List.length_singleton] at hA2
  have hCl:=hA3.len
  rw [List.length_singleton] at hCl
  have hCm:=cx.hl
  have s1:Sp n m most (-2) (rn C pos [] vs L o sp) (rn C (pos+1) [] vs L o (sp+1)):=sp_do cx.hC hA1.get (fun h=>by simp at h) (by omega) (.inr (by omega)) (by omega) (do_30 hA1.get (by omega) (by omega)) (-2) (by rw [rn_sp]; omega)
  rcases runE cx s.X ts (pos+1) [] vs L o (sp+1) hr hA2 hts hv (by simp; omega) (by omega) (by omega) with ⟨az,s2,hal,hav⟩ | ⟨e,c',s2,he,hc⟩
  · obtain ⟨v,rfl⟩ : ∃ v,az=[v]:=by
      match az,hal with
      | [v],_=>exact ⟨v,rfl⟩
    have hk:Vk v:=hav v (by simp)
    have s3:=(s1.trans s2).le (z':=-2) (by omega)
    rw [show sp+1+s.X.nodes=sp+(1+s.X.nodes) by omega,show pos+1+(cE s.X).length=pos+(1+(cE s.X).length) by omega] at s3
    have hget:=hA3.get
    rw [zie] at hget
    rw [show pos+(1+(cE s.X).length+1)=pos+(1+(cE s.X).length)+1 by omega]
    generalize pos+(1+(cE s.X).length)=p at s3 hget hCl ⊢
    have hp:p<90000:=by omega
    have hs:sp+(1+s.X.nodes)<1000000:=by omega
    obtain ⟨k1,k9,_,_,hs1,hs2,_⟩:=hst
    have hnv:s.Kind≠1→nextV s ts=ts:=fun h=>by unfold nextV; rw [if_neg h]
    by_cases e12:s.Kind=1∨s.Kind=2
    · rw [if_pos e12] at hget
      obtain ⟨a,ha,hal,hlen⟩ : ∃ a:Nat,s.Slot=(a:Int)∧a≤vs.length∧(if a=vs.length then vs++[v] else vs.set a v).length=(nextV s ts).length:=by
        rcases e12 with e | e
        · refine ⟨vs.length,by rw [(hs1 e).1,hts],Nat.le_refl _,?_⟩
          unfold nextV; rw [if_pos e,if_pos rfl]; simp [hts]
        · obtain ⟨q1,q2⟩:=hs2 e
          have:=(List.getElem?_eq_some_iff.1 q2).1
          exact ⟨s.Slot.toNat,by omega,by omega,by rw [if_neg (by omega),hnv (by omega)]; simp [hts]⟩
      rw [ha] at hget
      have s4:=(s3.trans (sp0 cx hget (by simp) (by simp) hs (do_31 (st:=[]) hget hp hs (by simp) hal (by omega)) rn_sp)).le (z':=0) (by omega)
      refine .inl ⟨_,o,1+s.X.nodes,s4,hlen,fun u hu=>?_,hon (by omega),Ef.refl,rfl,by omega⟩
      split at hu
      · rcases List.mem_append.1 hu with hu | hu
        · exact hv u hu
        · obtain rfl:=List.mem_singleton.1 hu; exact hk
      · rcases List.mem_or_eq_of_mem_set hu with hu | rfl
        · exact hv u hu
        · exact hk
    · rw [if_neg e12] at hget
      rw [hnv (by omega),← hts]
      by_cases e3:s.Kind=3
      · rw [if_pos e3] at hget
        obtain ⟨hs',hd,hln⟩:=do_32 (n:=n) (vs:=vs) (v:=v) (L:=L) (o:=o) cx.hn hget hp hs (st:=[]) (by simp) (by omega)
        exact .inl ⟨vs,_,1+s.X.nodes,(s3.trans (sp0 cx hget (by simp) (by simp) hs hd rn_sp)).le (by omega),rfl,hv,hon (by omega),⟨fun q=>absurd (hkind 3 e3) q,fun _=>rfl,fun _=>rfl,id⟩,rfl,by simp only; omega⟩
      · rw [if_neg e3] at hget
        by_cases e4:s.Kind=4
        · rw [if_pos e4] at hget
          rcases do_33 (n:=n) (vs:=vs) (v:=v) (L:=L) (o:=o) hget hp hs (st:=[]) (by simp) with ⟨k,hd⟩ | hd
          · exact .inl ⟨vs,_,1+s.X.nodes,(s3.trans (sp0 cx hget (by simp) (by simp) hs hd rn_sp)).le (by omega),rfl,hv,hon (by omega),⟨fun _=>rfl,fun q=>absurd (hkind 4 e4) q,fun _=>rfl,id⟩,rfl,by simp only; omega⟩
          · exact .inr (.inr ⟨203,1+s.X.nodes,(s3.trans (sp0 cx hget (by simp) (by simp) hs hd zdH)).le (by omega),.inr rfl,by omega⟩)
        · rw [if_neg e4] at hget
          by_cases e7:s.Kind=7
          · rw [if_pos e7] at hget
            rcases do_34 (n:=n) (vs:=vs) (v:=v) (L:=L) (o:=o) hget hp hs (st:=[]) (by simp) with ⟨k,hd,hk7⟩ | hd
            · exact .inl ⟨vs,_,1+s.X.nodes,(s3.trans (sp0 cx hget (by simp) (by simp) hs hd rn_sp)).le (by omega),rfl,hv,hon (by omega),⟨fun _=>rfl,fun _=>rfl,fun q=>absurd (hkind 7 e7) q,fun _=>hk7⟩,rfl,by simp only; omega⟩
            · exact .inr (.inr ⟨203,1+s.X.nodes,(s3.trans (sp0 cx hget (by simp) (by simp) hs hd zdH)).le (by omega),.inr rfl,by omega⟩)
          · rw [if_neg e7] at hget
            by_cases e8:s.Kind=8
            · rw [if_pos e8] at hget
              exact .inr (.inl ⟨_,1+s.X.nodes,(s3.trans (sp0 cx hget (by simp) (by simp) hs (do_35 hget hp hs (st:=[]) (by simp)) zfv)).le (by omega),hen (.inl e8),⟨fun _=>rfl,fun _=>rfl,fun _=>rfl,id⟩,.inl ⟨rfl,hkind 8 e8⟩,by simp only; omega⟩)
            · rw [if_neg e8] at hget
              exact .inr (.inl ⟨_,1+s.X.nodes,(s3.trans (sp0 cx hget (by simp) (by simp) hs (do_36 hget hp hs (st:=[]) (by simp)) zfv)).le (by omega),hen (.inr (by omega)),⟨fun _=>rfl,fun _=>rfl,fun _=>rfl,id⟩,.inr ⟨rfl,hkind 9 (by omega)⟩,by simp only; omega⟩)
  · refine .inr (.inr ⟨e,1+c',?_,he,by omega⟩)
    have:=(s1.trans s2).le (z':=0) (by omega)
    rw [show sp+1+c'=sp+(1+c') by omega] at this
    exact this
end Go.Proofs.YtgjcniomhahgkaaGreatDoor
namespace Go.Proofs.YtgjcniomhahgkaaGreatDoor
open Go.Abs
theorem zf0 {vs:List zj} {a:Nat} (h:∀ v∈vs,Vk v):∀ v∈vs.take a,Vk v:=fun v hv=>h v (List.mem_of_mem_take hv)
theorem zbO (l:List z7) (ts:List Int):ts.length≤(varsA l ts).length:=(z5N l ts).1
theorem z90 {n:Nat} {m:zH} {most:Int} {C:List z6} (cx:Cx n m most C) (b:List z7) (ts:List Int) (pos:Nat) (L:List Int) (v:Way) (hv:v.NN) (hk:Int→Prop)
    (hA2:C[pos+2]? = some ⟨40,(pos+5+(cB b (pos+3) ts.length).length:Nat),[]⟩) (hA4:C[pos+3+(cB b (pos+3) ts.length).length]? = some ⟨41,(ts.length:Int),[]⟩) (hA5:C[pos+3+(cB b (pos+3) ts.length).length+1]? = some ⟨37,(pos+2:Nat),[]⟩)
    (hL:L.length<40000) (hts:ts.length<90000)
    (body:∀ (vs:List zj) (j:Nat) (o:zA) (sp:Nat),vs.length=ts.length→(∀ v∈vs,Vk v)→o.Edge.Headers.length≤10+sp→v.M<TOP→((sp+v.M:Nat):Int)≤most→
      Rs n m most 0 C (rn C (pos+3) [] vs (L++[(j:Int)]) o sp) (pos+3+(cB b (pos+3) ts.length).length) (varsA b ts).length (L++[(j:Int)]) v sp o hk) :
    ∀ (j : Nat) (w : Way) (c0 : Nat) (vs : List zj) (o : zA) (s0 : Nat), j < 1000000 → vs.length = ts.length → (∀ v ∈ vs, Vk v) → o.Edge.Headers.length ≤ 10 + (s0 + c0) → InC w.on c0 → (loopW j w ((ex 1).seq v)).M < TOP → ((s0 + (loopW j w ((ex 1).seq v)).M : Nat) : Int) ≤ most →
      Rs n m most 1 C (rn C (pos+2) [] vs (L++[(j:Int)]) o (s0+c0)) (pos+5+(cB b (pos+3) ts.length).length) ts.length L (loopW j w ((ex 1).seq v)) s0 o hk
  | 0, w, c0, vs, o, s0, _, hvl, hvv, hh, hin, hT, hm => by
    rw [loopW] at hT hm ⊢
    have hmost:=cx.hm
    have:=hin.le
    have hMw:c0≤w.M:=by unfold Way.M; omega
    have hl:=(List.getElem?_eq_some_iff.1 hA2).1
    have hCm:=cx.hl
    exact .inl ⟨vs,o,c0,sp_do cx.hC hA2 (fun _=>⟨L,_,rfl,by simp; omega⟩) (by omega) (.inl (by simp [costI])) (by omega) (zmF hA2 (by omega) (by omega) (by omega)) 1 (by rw [rn_sp]; omega),hvl,hvv,hin,Ef.refl,rfl,hh⟩
  | j + 1, w, c0, vs, o, s0, hj, hvl, hvv, hh, hin, hT, hm => by
    rw [loopW] at hT hm ⊢
    have hmost:=cx.hm
    have hl:=(List.getElem?_eq_some_iff.1 hA5).1
    have hCm:=cx.hl
    have hb' : ((ex 1).seq v).NN:=zbx (NN_ex 1) hv
    have hM1:=zkM j (w.seq ((ex 1).seq v)) _ hb' hT
    have hM2:=zcZ hin hb' (by omega)
    have hT2:((ex 1).seq v).M<TOP:=by omega
    have hM3:=zcZ (ex_on 1) hv hT2
    have s1:Sp n m most (-2) (rn C (pos+2) [] vs (L++[((j+1:Nat):Int)]) o (s0+c0)) (rn C (pos+3) [] vs (L++[(j:Int)]) o (s0+c0+1)):=
      sp_do cx.hC hA2 (fun _=>⟨L,_,rfl,by simp; omega⟩) (by omega) (.inr (by omega)) (by omega) (zmE hA2 (by omega) (by omega) (by omega) (by omega)) (-2) (by rw [rn_sp]; omega)
    have h1:=body vs j o (s0+c0+1) hvl hvv (by omega) (by omega) (by omega)
    have h2:=(h1.after (w:=ex 1) (ex_on 1) hv hT2).after (w:=w) hin hb' (by omega)
    have h3:=(h2.pre (z:=-2) s1 (by omega)).post (z2:=2) (z:=0) (p2:=pos+2) (nv2:=ts.length) (L2:=L++[(j:Int)]) (hz:=by omega) (hz1:=by omega) fun us o' sp a1 a2 a3=>by
      have hge:=zbO b ts
      refine ⟨us.take ts.length,(sp0 cx hA4 (by simp) (by simp) (by omega) (do_41 hA4 (by omega) (by omega) (by omega)) rn_sp).trans (sp0 cx hA5 (by simp) (by simp) (by omega) (do_37 hA5 (by omega) (by omega)) rn_sp),by simp; omega,zf0 a2⟩
    refine h3.bind (z2:=1) (hz:=by omega) (hz1:=by omega) (hk:=hk) (fun c hc=>zgO j hc) hM1 (fun _ q=>q) (fun _ q=>q) fun us o' c a1 a2 a3 a4=>?_
    exact z90 cx b ts pos L v hv hk hA2 hA4 hA5 hL hts body j _ c us o' s0 (by omega) a1 a2 a4 a3 hT hm
mutual
theorem runS {n:Nat} {m:zH} {most:Int} {C:List z6} (cx:Cx n m most C):∀ (s:z7) (ts:List Int) (pos:Nat) (vs:List zj) (L:List Int) (o:zA) (sp:Nat),rS s ts→At C pos (cS s pos ts.length)→vs.length=ts.length→(∀ v∈vs,Vk v)→ts.length≤200→L.length+s.nodes<20000→
    o.Edge.Headers.length≤10+sp→(wS s).M<TOP→((sp+(wS s).M:Nat):Int)≤most→Rs n m most 0 C (rn C pos [] vs L o sp) (pos+(cS s pos ts.length).length) (nextV s ts).length L (wS s) sp o (hasS · s)
  | ⟨kind, slot, nn, name, x, b, e⟩, ts, pos, vs, L, o, sp, hr, hA, hts, hv, hl, hL, hh, hT, hm => by
    have hmost:=cx.hm
    have hCm:=cx.hl
    simp only [z7.nodes] at hL
    simp only [rS] at hr
    obtain ⟨hst,hre,hrb,hre2⟩:=hr
    have hkb:∀ k,hasB k b→hasS k ⟨kind,slot,nn,name,x,b,e⟩:=fun k h=>by simp only [hasS]; exact .inr (.inl h)
    have hke:∀ k,hasB k e→hasS k ⟨kind,slot,nn,name,x,b,e⟩:=fun k h=>by simp only [hasS]; exact .inr (.inr h)
    by_cases h6:kind=6
    · have hnx:nextV ⟨kind,slot,nn,name,x,b,e⟩ ts=ts:=by unfold nextV; rw [if_neg (by simp only; omega)]
      rw [wS_eq,if_pos (by exact h6)] at hT hm ⊢
      rw [cS6 _ _ _ h6] at hA ⊢
      rw [hnx]
      simp only at hA hT hm ⊢
      generalize hk:cB b (pos+3) ts.length=k at hA ⊢
      have hlen:([(z6.mk 30 0 []),(z6.mk 39 nn []),(z6.mk 40 ((pos+5+k.length:Nat)) [])]++k++[(z6.mk 41 (ts.length:Int) []),(z6.mk 37 ((pos+2:Nat)) [])]).length=5+k.length:=by simp; omega
      have hCl:=hA.len
      rw [hlen] at hCl ⊢
      have hA0:At C pos ([(z6.mk 30 0 [])]++([(z6.mk 39 nn [])]++([(z6.mk 40 ((pos+5+k.length:Nat)) [])]++(k++([(z6.mk 41 (ts.length:Int) [])]++[(z6.mk 37 ((pos+2:Nat)) [])]))))):=by simpa using hA
      have hA1:=hA0.right
      have hA2:=hA1.right
      have hA3:=hA2.right
      have hA4:=hA3.right
      have hA5:=hA4.right
      simp only [List.length_cons,List.length_nil,Nat.zero_add] at hA1 hA2 hA3 hA4 hA5
      obtain ⟨_,_,_,hs6,_⟩:=hst
      obtain ⟨n0,n1⟩:=hs6 h6
      have hNb:(wB (ex 0) b).NN:=NN_B b (NN_ex 0)
      have hN1:=zde nn.toNat (NN_ex 0) (zbx (NN_ex 1) hNb)
      have hM0:=zcZ (ex_on 1) hN1 hT
      have s1:Sp n m most (-2) (rn C pos [] vs L o sp) (rn C (pos+1) [] vs L o (sp+1)):=sp_do cx.hC hA0.get (fun h=>by simp at h) (by omega) (.inr (by omega)) (by omega) (do_30 hA0.get (by omega) (by omega)) (-2) (by rw [rn_sp]; omega)
      have s2:Sp n m most 1 (rn C (pos+1) [] vs L o (sp+1)) (rn C (pos+2) [] vs (L++[nn]) o (sp+1)):=sp0 cx hA1.get (by simp) (by simp) (by omega) (do_39 hA1.get (by omega) (by omega) (by omega)) rn_sp
      rw [show nn=((nn.toNat:Nat):Int) by omega] at s2
      have h3:=z90 cx b ts pos L (wB (ex 0) b) hNb (hasB · b) (by rw [hk]; exact hA2.get) (by rw [hk]; exact hA4.get) (by rw [hk]; exact hA5.get) (by omega) (by omega) (fun us j o' sp' a1 a2 a3 a4 a5=>by
          have:=runB cx b ts (pos+3) us (L++[(j:Int)]) o' sp' (ex 0) 0 hrb (by rw [hk]; exact hA3.left) a1 a2 hl (by simp; omega) a3 (ex_on 0) a4 a5
          exact this) nn.toNat (ex 0) 0 vs o (sp+1) (by omega) hts hv (by omega) (ex_on 0) (by omega) (by omega)
      rw [hk,Nat.add_zero] at h3
      have h4:=(h3.pre (z:=0) (s1.trans s2) (by omega)).after (ex_on 1) hN1 hT
      rw [show pos+(5+k.length)=pos+5+k.length by omega]
      exact h4.wk hkb
    · by_cases h5:kind=5
      · have hnx:nextV ⟨kind,slot,nn,name,x,b,e⟩ ts=ts:=by unfold nextV; rw [if_neg (by simp only; omega)]
        rw [wS_eq,if_neg (by exact h6),if_pos (by exact h5)] at hT hm ⊢
        rw [cS5 ⟨kind,slot,nn,name,x,b,e⟩ pos ts.length h5 rfl rfl rfl] at hA ⊢
        rw [hnx]
        simp only at hA hT hm ⊢
        have hql:=zbz x
        generalize hq:cE x=q at hA hql ⊢
        generalize hk:cB b (pos+2+q.length) ts.length=k at hA ⊢
        generalize hj:cB e (pos+4+q.length+k.length) ts.length=j at hA ⊢
        have hlen:([(z6.mk 30 0 [])]++q++[(z6.mk 38 ((pos+4+q.length+k.length:Nat)) [])]++k++[(z6.mk 41 (ts.length:Int) []),(z6.mk 37 ((pos+5+q.length+k.length+j.length:Nat)) [])]++j++[(z6.mk 41 (ts.length:Int) [])]).length=5+q.length+k.length+j.length:=by simp; omega
        have hCl:=hA.len
        rw [hlen] at hCl ⊢
        have hA0:At C pos ([(z6.mk 30 0 [])]++(q++([(z6.mk 38 ((pos+4+q.length+k.length:Nat)) [])]++(k++([(z6.mk 41 (ts.length:Int) [])]++([(z6.mk 37 ((pos+5+q.length+k.length+j.length:Nat)) [])]++(j++[(z6.mk 41 (ts.length:Int) [])]))))))):=by simpa using hA
        have hA1:=hA0.right
        have hA2:=hA1.right
        have hA3:=hA2.right
        have hA4:=hA3.right
        have hA5:=hA4.right
        have hA6:=hA5.right
        have hA7:=hA6.right
        simp only [List.length_cons,List.length_nil,Nat.zero_add] at hA1 hA2 hA3 hA4 hA5 hA6 hA7
        have hNb:(wB (ex 0) b).NN:=NN_B b (NN_ex 0)
        have hNa:((wB (ex 0) b).alt (wB (ex 0) e)).NN:=zjl hNb
        have hM0:=zcZ (ex_on (1+x.nodes)) hNa hT
        obtain ⟨hMb,hMe⟩:=alt_M (wB (ex 0) b) (wB (ex 0) e)
        have s1:Sp n m most (-2) (rn C pos [] vs L o sp) (rn C (pos+1) [] vs L o (sp+1)):=sp_do cx.hC hA0.get (fun h=>by simp at h) (by omega) (.inr (by omega)) (by omega) (do_30 hA0.get (by omega) (by omega)) (-2) (by rw [rn_sp]; omega)
        rcases runE cx x ts (pos+1) [] vs L o (sp+1) (hre h6) (by rw [hq]; exact hA1.left) hts hv (by simp; omega) (by omega) (by omega) with ⟨az,s2,hal,hav⟩ | ⟨e',c',s2,he,hc⟩
        · obtain ⟨v,rfl⟩ : ∃ v,az=[v]:=by
            match az,hal with
            | [v],_=>exact ⟨v,rfl⟩
          rw [hq] at s2
          have hxp:=z4n x
          have s3:=((s1.trans s2).trans (sp0 cx hA2.get (by simp) (by simp) (by omega) (do_38 (st:=[]) hA2.get (by omega) (by omega) (by simp)) rn_sp)).le (z':=-3) (by omega)
          rw [show sp+1+x.nodes=sp+(1+x.nodes) by omega] at s3
          have hge:=zbO b ts
          have hge2:=zbO e ts
          have fin:Rs n m most 2 C (rn C (if v.N=0 then pos+4+q.length+k.length else pos+1+q.length+1) [] vs L o (sp+(1+x.nodes))) (pos+(5+q.length+k.length+j.length)) ts.length L ((wB (ex 0) b).alt (wB (ex 0) e)) (sp+(1+x.nodes)) o (hasS · ⟨kind,slot,nn,name,x,b,e⟩):=by
            by_cases h0:v.N=0
            · rw [if_pos h0]
              have h1:=runB cx e ts (pos+4+q.length+k.length) vs L o (sp+(1+x.nodes)) (ex 0) 0 hre2 (by rw [hj]; have:=hA6.left; rwa [show pos+1+q.length+1+k.length+1+1=pos+4+q.length+k.length by omega] at this) hts hv hl (by omega) (by omega) (ex_on 0) (by omega) (by omega)
              rw [hj,Nat.add_zero] at h1
              have hg7:=hA7.get
              rw [show pos+1+q.length+1+k.length+1+1+j.length=pos+4+q.length+k.length+j.length by omega] at hg7
              refine ((h1.post (p2:=pos+(5+q.length+k.length+j.length)) (nv2:=ts.length) (L2:=L) (z2:=1) (z:=2) (hz:=by omega) (hz1:=by omega) fun us o' sp' a1 a2 a3=>⟨us.take ts.length,?_,by simp; omega,zf0 a2⟩).alt2).wk hke
              have:=sp0 (vs:=us) (o:=o') (st:=[]) (L:=L) cx hg7 (by simp) (by simp) (show sp'<1000000 by omega) (do_41 hg7 (by omega) (by omega) (by omega)) rn_sp
              rwa [show pos+4+q.length+k.length+j.length+1=pos+(5+q.length+k.length+j.length) by omega] at this
            · rw [if_neg h0,show pos+1+q.length+1=pos+2+q.length by omega]
              rw [show pos+1+q.length+1=pos+2+q.length by omega] at hA3 hA4 hA5
              have h1:=runB cx b ts (pos+2+q.length) vs L o (sp+(1+x.nodes)) (ex 0) 0 hrb (by rw [hk]; exact hA3.left) hts hv hl (by omega) (by omega) (ex_on 0) (by omega) (by omega)
              rw [hk,Nat.add_zero] at h1
              refine ((h1.post (p2:=pos+(5+q.length+k.length+j.length)) (nv2:=ts.length) (L2:=L) (z2:=2) (z:=2) (hz:=by omega) (hz1:=by omega) fun us o' sp' a1 a2 a3=>⟨us.take ts.length,?_,by simp; omega,zf0 a2⟩).alt1).wk hkb
              have s5:=sp0 (vs:=us) (o:=o') (st:=[]) (L:=L) cx hA4.get (by simp) (by simp) (show sp'<1000000 by omega) (do_41 hA4.get (by omega) (by omega) (by omega)) rn_sp
              have s6:=sp0 (vs:=us.take ts.length) (o:=o') (st:=[]) (L:=L) cx hA5.get (by simp) (by simp) (show sp'<1000000 by omega) (do_37 hA5.get (by omega) (by omega)) rn_sp
              rw [show pos+5+q.length+k.length+j.length=pos+(5+q.length+k.length+j.length) by omega] at s6
              exact s5.trans s6
          exact (fin.pre (z:=0) s3 (by omega)).after (w:=ex (1+x.nodes)) (ex_on _) hNa hT
        · refine .inr (.inr ⟨e',1+c',?_,he,?_⟩)
          · have:=(s1.trans s2).le (z':=0) (by omega)
            rw [show sp+1+c'=sp+(1+c') by omega] at this
            exact this
          · omega
      · have hMp:(wS ⟨kind,slot,nn,name,x,b,e⟩).M=1+x.nodes:=by
          rw [wS_eq,if_neg (by exact h6),if_neg (by exact h5)]
          split <;> simp [Way.M,hi,ex]
        rw [cSo _ _ _ h5 h6] at hA ⊢
        have:=zg4 cx ⟨kind,slot,nn,name,x,b,e⟩ ts pos vs L o sp (hre h6) hst h5 h6 hA hts hv hl (by simp only; omega) hh hm
        rw [List.length_append,List.length_append,List.length_singleton,List.length_singleton]
        exact this
theorem runB {n:Nat} {m:zH} {most:Int} {C:List z6} (cx:Cx n m most C):∀ (l:List z7) (ts:List Int) (pos:Nat) (vs:List zj) (L:List Int) (o:zA) (s0:Nat) (w:Way) (c0:Nat),rB l ts→At C pos (cB l pos ts.length)→vs.length=ts.length→(∀ v∈vs,Vk v)→ts.length≤200→L.length+z1y l<20000→
    o.Edge.Headers.length≤10+(s0+c0)→InC w.on c0→(wB w l).M<TOP→((s0+(wB w l).M:Nat):Int)≤most→Rs n m most 0 C (rn C pos [] vs L o (s0+c0)) (pos+(cB l pos ts.length).length) (varsA l ts).length L (wB w l) s0 o (hasB · l)
  | [], ts, pos, vs, L, o, s0, w, c0, hr, hA, hts, hv, hl, hL, hh, hin, hT, hm => by
    simp only [cB,List.length_nil,Nat.add_zero]
    rw [wB] at hT hm ⊢
    exact .inl ⟨vs,o,c0,Sp.refl,by simpa [varsA] using hts,hv,hin,Ef.refl,rfl,hh⟩
  | s :: r, ts, pos, vs, L, o, s0, w, c0, hr, hA, hts, hv, hl, hL, hh, hin, hT, hm => by
    simp only [rB] at hr
    simp only [z1y] at hL
    have hs:=z5o s
    have hmost:=cx.hm
    rw [wB] at hT hm ⊢
    have hM1:=wB_M r _ hT
    have hM2:=zcZ hin (NN_S s) (by omega)
    have e:varsA (s::r) ts=varsA r (nextV s ts):=rfl
    have hd:(if s.Kind=1 then (ts.length:Int)+1 else ts.length)=((nextV s ts).length:Int):=by unfold nextV; split <;> simp
    have hvl:(nextV s ts).length≤200:=by
      unfold nextV; split
      · rename_i h1
        have:=(((rS_eq s ts).1 hr.1).1.2.2.2.2.1 h1).2
        simp; omega
      · exact hl
    rw [e]
    simp only [cB,hd] at hA ⊢
    have h1:=runS cx s ts pos vs L o (s0+c0) hr.1 hA.left hts hv hl (by omega) hh (by omega) (by omega)
    have h2:=h1.after (w:=w) hin (NN_S s) (by omega)
    refine h2.bind (z2:=0) (hz:=by omega) (hz1:=by omega) (hk:=(hasB · (s::r))) (fun c hc=>wB_en r hc) hM1 (fun k q=>by simp only [hasB]; exact .inl q) (h2:=(hasB · r)) (fun k q=>by simp only [hasB]; exact .inr q) fun us o' c a1 a2 a3 a4=>?_
    have h3:=runB cx r (nextV s ts) (pos+(cS s pos ts.length).length) us L o' s0 (w.seq (wS s)) c hr.2 hA.right a1 a2 hvl (by omega) a4 a3 hT hm
    rwa [Nat.add_assoc,← List.length_append] at h3
end
end Go.Proofs.YtgjcniomhahgkaaGreatDoor
namespace Go.Proofs.YtgjcniomhahgkaaGreatDoor
open Go.Abs
theorem zgy (n:Nat) (hn:2≤n):zY n (zw.mk (zz.mk [] []) []) [] 1=some (true,zw.mk (zz.mk [] []) []):=by
 obtain ⟨m,rfl⟩ : ∃ m,n=m+2:=⟨n - 2,by omega⟩
 show z16 (m+1) _ _ _ _=_
 unfold z16
 rw [z3q (r:=.go ([],[],[])) (by simp [z29])]
 simp only [z12]
 rw [zW (by simp)]
 simp
end Go.Proofs.YtgjcniomhahgkaaGreatDoor
namespace Go.Proofs.YtgjcniomhahgkaaGreatDoor
open Go.Abs
def effB (l:List Int):Prop:=l.length≤6∧(∀ x∈l,1≤x∧x≤6)∧∀ (i:Nat) (h:i+1<l.length),l[i]'(by omega)<l[i+1]
theorem zcu (n:Nat) (p:zG) (h:z1y p.Code+1<n) (hb:z1y p.Code<1073741824) (he:p.Effects.length<n) (hel:p.Effects.length<1073741824):∃ b,z5w n p=some b∧(b=true→rB p.Code []∧effB p.Effects):=by
  unfold z5w
  obtain ⟨r,h1,h2⟩:=z3s (step:=z5K p) (fun s=>∃ k:Nat,s=k∧k≤p.Effects.length∧∀ (i:Nat) (hi:i<p.Effects.length),i<k→(i:Int)+1≤p.Effects[i]∧p.Effects[i]≤6∧∀ (h0:0<i),p.Effects[i - 1]'(by omega)<p.Effects[i]) (fun s=>p.Effects.length - s.toNat) (fun r=>match r with | .go _=>∀ (i:Nat) (hi:i<p.Effects.length),(i:Int)+1≤p.Effects[i]∧p.Effects[i]≤6∧∀ (h0:0<i),p.Effects[i - 1]'(by omega)<p.Effects[i] | .stop b=>b=false) (fun s ⟨k,hk,hle,hs⟩=>by
    subst hk
    unfold z5K
    by_cases hc:k<p.Effects.length
    · simp only [show decide ((k:Int)<(p.Effects.length:Int))=true by simp; omega,cond_true]
      rw [z1J hc,z2P (N:=p.Effects.length) (by omega) (by omega)]
      have hq:∃ b:Bool,(cond (decide (p.Effects[k]<1) || decide (6<p.Effects[k])) (some (.go true)) (bindJ (S:=Bool) (cond (decide (0<(k:Int))) (idx p.Effects (k:Int) fun x28=>idx p.Effects (IntKind.i64.wrap ((k:Int) - 1)) fun x29=>some (.go (decide (x28≤x29)))) (some (.go false))) (fun b22=>some (.go b22))):Option (Lp Bool (Lp Int (Lp Unit Bool))))=some (.go b)∧(b=false→1≤p.Effects[k]∧p.Effects[k]≤6∧∀ (h0:0<k),p.Effects[k - 1]<p.Effects[k]):=by
        by_cases hr:p.Effects[k]<1∨6<p.Effects[k]
        · rw [show (decide (p.Effects[k]<1) || decide (6<p.Effects[k]))=true by simpa using hr]; exact ⟨_,rfl,fun h=>by cases h⟩
        · rw [show (decide (p.Effects[k]<1) || decide (6<p.Effects[k]))=false by simp; omega]
          by_cases h0:0<k
          · rw [z1J hc,w64 (by omega) (by omega),show (k:Int) - 1=((k - 1:Nat):Int) by omega,z1J (by omega)]
            rw [show decide (0<(k:Int))=true by simp; omega]
            refine ⟨_,rfl,fun h=>?_⟩
            simp at h
            exact ⟨by omega,by omega,fun _=>h⟩
          · rw [show decide (0<(k:Int))=false by simp; omega]; exact ⟨_,rfl,fun _=>⟨by omega,by omega,fun h=>absurd h h0⟩⟩
      obtain ⟨b,hb,hbs⟩:=hq
      rw [hb]
      cases b
      · refine .inl ⟨_,rfl,⟨k+1,rfl,by omega,fun i hi hik=>?_⟩,by simp; omega⟩
        by_cases e:i=k
        · subst e
          obtain ⟨q1,q2,q3⟩:=hbs rfl
          refine ⟨?_,q2,q3⟩
          by_cases h0:0<i
          · have:=q3 h0; have:=(hs (i - 1) (by omega) (by omega)).1; omega
          · omega
        · exact hs i hi (by omega)
      · exact .inr ⟨_,rfl,rfl⟩
    · simp only [show decide ((k:Int)<(p.Effects.length:Int))=false by simp; omega,cond_false]
      exact .inr ⟨_,rfl,fun i hi=>hs i hi (by omega)⟩) n 0 ⟨0,rfl,by omega,fun i hi h=>by omega⟩ (by simp; omega)
  rw [h1]
  cases r with
  | stop b=>exact ⟨b,rfl,fun h=>by simp only at h2; simp [h2] at h⟩
  | go u =>
    obtain ⟨b,hb1,hb2⟩:=zez n p.Code [] 1 h hb
    refine ⟨b,by simp only [z12,hb1]; rfl,fun h=>⟨hb2 h,?_,?_,?_⟩⟩
    · simp only at h2
      by_cases h6:p.Effects.length≤6
      · exact h6
      · have:=h2 6 (by omega); omega
    · intro x hx
      obtain ⟨j,hj,rfl⟩:=List.getElem_of_mem hx
      have:=h2 j hj; exact ⟨by omega,by omega⟩
    · intro i hi
      exact (h2 (i+1) hi).2.2 (by omega)
theorem zcF (n:Nat) (l:List Int) (hn:l.length+1<n) (h:effB l):z4i n (zG.mk [] l [])=some true:=by
 obtain ⟨h6,h1,h2⟩:=h
 unfold z4i
 have hl:iter (z3t (zG.mk [] l [])) n 0=some (.go ()):=z6J (step:=z3t (zG.mk [] l [])) l.length (.go ()) (fun i hi=>by
  unfold z3t
  simp only [show decide ((i:Int)<(l.length:Int))=true by simp; omega,cond_true]
  rw [z1J hi,w64 (x:=(i:Int)+1) (by omega) (by omega)]
  have:=h1 l[i] (List.getElem_mem _)
  rw [show (decide (l[i]<1) || decide (6<l[i]))=false by simp; omega]
  simp only [cond_false]
  by_cases h0:0<i
  ·rw [w64 (by omega) (by omega),show (i:Int) - 1=((i - 1:Nat):Int) by omega,z1J (by omega)]
   have h3:=h2 (i - 1) (by omega)
   have e:i - 1+1=i:=by omega
   simp only [e] at h3
   rw [show decide (0<(i:Int))=true by simp; omega,show decide (l[i]≤l[i - 1])=false by simp; omega]
   rfl
  ·rw [show decide (0<(i:Int))=false by simp; omega]
   rfl) (by unfold z3t; simp) n (by omega)
 rw [hl]
 simp only [z12,zgy n (by omega),obind,Option.bind_some]
theorem zbi:∀ (l:List zm) (i:Nat) (x:zm),l[i]? = some x→z2W (l.take (i+1))=z2W (l.take i)+x.nodes
 | y::r,0,x,h=>by simp at h; subst h; simp [z2W]
 | y::r,i+1,x,h=>by simp only [List.take_succ_cons,z2W]; have:=zbi r i x (by simpa using h); omega
theorem zbg:∀ (l:List z7) (i:Nat) (x:z7),l[i]? = some x→z1y (l.take (i+1))=z1y (l.take i)+x.nodes
 | y::r,0,x,h=>by simp at h; subst h; simp [z1y]
 | y::r,i+1,x,h=>by simp only [List.take_succ_cons,z1y]; have:=zbg r i x (by simpa using h); omega
theorem zlo:∀ (n:Nat) (x:zm),x.nodes<n→x.nodes<1073741824→∃ r,z3A n x 200=some r∧0≤r∧r≤x.nodes∧(r≤200→r=x.nodes)
  | 0,x,h,_=>by omega
  | n + 1, x, h, hb => by
    have hn:=z4n x
    have hlen:=z4L x.Args
    show ∃ r,z3a n (z3A n) x 200=some r∧0≤r∧r≤x.nodes∧(r≤200→r=x.nodes)
    unfold z3a
    obtain ⟨r,h1,q,rfl,hq⟩:=z3s (step:=z4C x 200 (z3A n)) (fun s=>∃ k:Nat,s.2=k∧k≤x.Args.length∧0≤s.1∧s.1≤1+(z2W (x.Args.take k):Int)∧(s.1≤200→s.1=1+(z2W (x.Args.take k):Int))) (fun s=>x.Args.length - s.2.toNat) (fun r=>∃ q,r = .go q∧0≤q∧q≤x.nodes∧(q≤200→q=x.nodes)) (fun ⟨a,b⟩ ⟨k,hk,hle,ha0,ha1,ha2⟩=>by
      simp only at hk ha0 ha1 ha2; subst hk
      unfold z4C
      by_cases hc:k<x.Args.length∧a≤200
      · simp only [show (decide ((k:Int)<(x.Args.length:Int)) && decide (a≤200))=true by simp; omega,cond_true]
        have hx:=List.getElem?_eq_getElem hc.1
        have:=z7c _ _ _ hx
        have hts:=z8l _ _ _ hx
        obtain ⟨r,hr,r0,r1,r2⟩:=zlo n x.Args[k] (by omega) (by omega)
        rw [z43 hx,hr,z2P (N:=x.Args.length) (by omega) (by omega)]
        simp only [obind,Option.bind_some]
        rw [w64 (by omega) (by omega)]
        have hta:=zbi _ _ _ hx
        refine .inl ⟨_,rfl,⟨k+1,rfl,by omega,by simp only; omega,by simp only; omega,fun h=>?_⟩,by simp; omega⟩
        simp only at h ⊢
        have:=ha2 (by omega); have:=r2 (by omega); omega
      · simp only [show (decide ((k:Int)<(x.Args.length:Int)) && decide (a≤200))=false by simp; omega,cond_false]
        have htk:=zam x.Args k
        refine .inr ⟨_,rfl,_,rfl,ha0,by omega,fun h=>?_⟩
        have:=ha2 h
        rw [show k=x.Args.length by omega,List.take_length] at this
        omega) n (1,0) ⟨0,rfl,by omega,by simp,by simp [z2W],by simp [z2W]⟩ (by simp; omega)
    rw [h1]; exact ⟨_,rfl,hq⟩
theorem z9J:∀ (l:List z7) (i:Nat),z1y (l.take i)≤z1y l
 | [],i=>by simp [z1y]
 | y::r,0=>by simp [z1y]
 | y::r,i+1=>by simp only [List.take_succ_cons,z1y]; have:=z9J r i; omega
theorem zga:∀ (n:Nat) (l:List z7),z1y l+1<n→z1y l<1073741824→∃ r,z4M n l 200=some r∧0≤r∧r≤z1y l∧(r≤200→r=z1y l)
  | 0,l,h,_=>by omega
  | n + 1, l, h, hb => by
    have hlen:=z5H l
    show ∃ r,z4g n (z4M n) l 200=some r∧0≤r∧r≤z1y l∧(r≤200→r=z1y l)
    unfold z4g
    obtain ⟨r,h1,q,rfl,hq⟩:=z3s (step:=z6n n l 200 (z4M n)) (fun s=>∃ k:Nat,s.2=k∧k≤l.length∧0≤s.1∧s.1≤(z1y (l.take k):Int)∧(s.1≤200→s.1=(z1y (l.take k):Int))) (fun s=>l.length - s.2.toNat) (fun r=>∃ q,r = .go q∧0≤q∧q≤z1y l∧(q≤200→q=z1y l)) (fun ⟨a,b⟩ ⟨k,hk,hle,ha0,ha1,ha2⟩=>by
      simp only at hk ha0 ha1 ha2; subst hk
      unfold z6n
      by_cases hc:k<l.length∧a≤200
      · simp only [show (decide ((k:Int)<(l.length:Int)) && decide (a≤200))=true by simp; omega,cond_true]
        have hx:=List.getElem?_eq_getElem hc.1
        have:=z7b _ _ _ hx
        have hts:=z8k _ _ _ hx
        have h2:=z5o l[k]
        have h3:=z4n l[k].X
        obtain ⟨r1,hr1,p0,p1,p2⟩:=zlo n l[k].X (by omega) (by omega)
        obtain ⟨r2,hr2,q0,q1,q2⟩:=zga n l[k].Body (by omega) (by omega)
        obtain ⟨r3,hr3,s0,s1,s2⟩:=zga n l[k].Else (by omega) (by omega)
        rw [z43 hx,hr1]
        simp only [obind,Option.bind_some,hr2,hr3]
        rw [z2P (N:=l.length) (by omega) (by omega)]
        rw [w64 (x:=a+1) (by omega) (by omega),w64 (x:=a+1+r1) (by omega) (by omega),w64 (x:=a+1+r1+r2) (by omega) (by omega),w64 (x:=a+1+r1+r2+r3) (by omega) (by omega)]
        have hta:=zbg _ _ _ hx
        refine .inl ⟨_,rfl,⟨k+1,rfl,by omega,by simp only; omega,by simp only; omega,fun h=>?_⟩,by simp; omega⟩
        simp only at h ⊢
        have:=ha2 (by omega); have:=p2 (by omega); have:=q2 (by omega); have:=s2 (by omega); omega
      · simp only [show (decide ((k:Int)<(l.length:Int)) && decide (a≤200))=false by simp; omega,cond_false]
        have htk:=z9J l k
        refine .inr ⟨_,rfl,_,rfl,ha0,by omega,fun h=>?_⟩
        have:=ha2 h
        rw [show k=l.length by omega,List.take_length] at this
        omega) n (0,0) ⟨0,rfl,by omega,by simp,by simp [z1y],by simp [z1y]⟩ (by simp; omega)
    rw [h1]; exact ⟨_,rfl,hq⟩
end Go.Proofs.YtgjcniomhahgkaaGreatDoor
namespace Go.Proofs.YtgjcniomhahgkaaGreatDoor
open Go.Abs
def Sm (k:Nat) (t:zl):Prop:=t.stack_.length≤k∧t.slots_.length≤k∧t.loops_.length≤k
theorem z63 {α:Type} {b:Bool} {x y:Option α} (h1:b=true→∃ r,x=some r) (h2:b=false→∃ r,y=some r):∃ r,cond b x y=some r:=by cases b <;> simp_all
theorem zil {V:Type} (l:List (Int×V)) (k:Int) (v:V) (k' : Int):mget (mput l k v) k'=if k'=k then some v else mget l k':=by
  induction l with
  | nil=>simp only [mput,mget]; by_cases h:k=k' <;> simp [h,eq_comm]
  | cons p r ih =>
    simp only [mput]
    by_cases h:p.1=k
    · simp only [h,if_true,mget]
      by_cases e:k=k'
      · simp [e]
      · rw [if_neg e,if_neg e,if_neg (fun q=>e q.symm)]
    · simp only [h,if_false,mget,ih]
      by_cases e:p.1=k'
      · simp only [e,if_true]; rw [if_neg (fun q=>h (e.trans q))]
      · simp only [e,if_false]
def AllSm (k:Nat) (l:List (Int×zl)):Prop:=∀ (i:Int) (t:zl),mget l i=some t→Sm k t
theorem AllSm.put {k:Nat} {l:List (Int×zl)} (h:AllSm k l) (i:Int) {t:zl} (ht:Sm k t):AllSm k (mput l i t):=by
 intro j u hu
 rw [zil] at hu
 split at hu
 ·cases hu; exact ht
 ·exact h j u hu
theorem Sm.mono {j k:Nat} {t:zl} (h:Sm j t) (hk:j≤k):Sm k t:=⟨by have:=h.1; omega,by have:=h.2.1; omega,by have:=h.2.2; omega⟩
theorem AllSm.mono {j k:Nat} {l:List (Int×zl)} (h:AllSm j l) (hk:j≤k):AllSm k l:=fun i t ht=>(h i t ht).mono hk
end Go.Proofs.YtgjcniomhahgkaaGreatDoor
namespace Go.Proofs.YtgjcniomhahgkaaGreatDoor
open Go.Abs
theorem allT (n:Nat) (l:List Int) (v:Int) (hn:l.length<n) (hl:l.length<1000000):∃ r,z6R n l v=some r:=by
 unfold z6R z2J z3c
 obtain ⟨r,h1,_⟩:=z3s (step:=z3C l v) (fun s=>∃ k:Nat,s=k) (fun s=>l.length - s.toNat) (fun _=>True) (fun s ⟨k,hk⟩=>by
  subst hk
  unfold z3C
  by_cases hc:k<l.length
  ·simp only [show decide ((k:Int)<(l.length:Int))=true by simp; omega,cond_true,z5M,obind,Option.bind_some]
   rw [z1J hc,w64 (by omega) (by omega)]
   cases decide (l[k]≠v)
   ·exact .inl ⟨_,rfl,⟨k+1,by omega⟩,by omega⟩
   ·exact .inr ⟨_,rfl,trivial⟩
  ·simp only [show decide ((k:Int)<(l.length:Int))=false by simp; omega,cond_false]
   exact .inr ⟨_,rfl,trivial⟩) n 0 ⟨0,rfl⟩ (by simp; omega)
 rw [h1]
 cases r <;> exact ⟨_,rfl⟩
theorem operT (vs:List zk) (a b c d:Int) (ks:List Int) (op:Int) (l:List Int) (hl:l.length<1000000):∃ r,z1b (l.length+9) vs a b c d ks op l=some r:=by
 unfold z1b
 have h1:∀ x y,∃ r,zI (l.length+9) l x y=some r:=fun x y=>by
  obtain ⟨r,hr⟩:=allT (l.length+9) l x (by omega) hl
  unfold zI
  rw [hr]; cases r <;> exact ⟨_,rfl⟩
 have h2:l.length≠0→∃ r,z2s (l.length+9) l=some r:=fun h=>by
  unfold z2s
  rw [z4l (w:=0) (by omega) (by simp; omega)]
  obtain ⟨r,hr⟩:=allT (l.length+9) l (l[(0:Int).toNat]'(by simp; omega)) (by omega) hl
  rw [hr]; simp only [obind,Option.bind_some]
  cases (r && decide (l[(0:Int).toNat]'(by simp; omega)≠3)) <;> exact ⟨_,rfl⟩
 have h3:l.length≠0→∃ r,z11 (l.length+9) l=some r:=fun h=>by
  obtain ⟨r,hr⟩:=h2 h
  unfold z11
  rw [hr]; simp only [obind,Option.bind_some]
  cases decide (r≠0) <;> exact ⟨_,rfl⟩
 have h4:l.length≠0→∃ r,z1l (l.length+9) l=some r:=fun h=>by
  unfold z1l
  rw [z4l (w:=0) (by omega) (by simp; omega)]
  obtain ⟨r,hr⟩:=allT (l.length+9) l (l[(0:Int).toNat]'(by simp; omega)) (by omega) hl
  rw [hr]; cases r <;> exact ⟨_,rfl⟩
 have key:∀ o:Option Int,(l.length≠0→∃ r,o=some r)→∃ r,cond (decide ((l.length:Int)=0)) (some 0) (obind o fun r=>some r)=some r:=fun o ho=>by
  by_cases h:l.length=0
  ·simp [h]
  ·obtain ⟨r,hr⟩:=ho h
   rw [hr,decide_eq_false (by omega)]; exact ⟨_,rfl⟩
 iterate 5 refine z63 (fun _=>key _ fun _=>h1 _ _) fun _=>?_
 refine z63 (fun _=>key _ h2) fun _=>?_
 iterate 4 refine z63 (fun _=>key _ h3) fun _=>?_
 iterate 3 refine z63 (fun _=>key _ h4) fun _=>?_
 iterate 3 refine z63 (fun _=>key _ fun _=>h1 _ _) fun _=>?_
 exact ⟨_,rfl⟩
def Kp (k:Nat) (o:Option (Bool×zw)):Prop:=∃ b c,o=some (b,c)∧k≤c.kinds_.length
theorem z9c {k:Nat} {b:Bool} {x y:Option (Bool×zw)} (h1:b=true→Kp k x) (h2:b=false→Kp k y):Kp k (cond b x y):=by cases b <;> simp_all
theorem z87 {k:Nat} {b:Bool} {c:zw} (h:k≤c.kinds_.length):Kp k (some (b,c)):=⟨_,_,rfl,h⟩
def Jg {S:Type} (k:Nat) (o:Option (Lp S (Bool×zw))):Prop:=(∃ s,o=some (.go s))∨∃ b c,o=some (.stop (b,c))∧k≤c.kinds_.length
theorem z8E {S:Type} {k:Nat} {b:Bool} {x y:Option (Lp S (Bool×zw))} (h1:b=true→Jg k x) (h2:b=false→Jg k y):Jg k (cond b x y):=by cases b <;> simp_all
theorem jg_go {S:Type} {k:Nat} {s:S}:Jg k (some (.go s)):=.inl ⟨_,rfl⟩
theorem ze8 {S:Type} {k:Nat} {b:Bool} {c:zw} (h:k≤c.kinds_.length):Jg (S:=S) k (some (.stop (b,c))):=.inr ⟨_,_,rfl,h⟩
theorem jg_cc {S T:Type} {k:Nat} {b:Bool} {p q:T} {f:T→Option (Lp S (Bool×zw))} (h:∀ s,Jg k (f s)):Jg k (bindJ (cond b (some (.go p)) (some (.go q))) f):=by cases b <;> exact h _
theorem jg_kp {S:Type} {k:Nat} {o:Option (Lp S (Bool×zw))} {f:S→Option (Bool×zw)} (h:Jg k o) (hf:∀ s,Kp k (f s)):Kp k (bindJ o f):=by
 rcases h with ⟨s,rfl⟩ | ⟨b,c,rfl,h⟩
 ·exact hf s
 ·exact z87 h
theorem kp_cc {T:Type} {k:Nat} {b:Bool} {p q:T} {f:T→Option (Bool×zw)} (h:∀ s,Kp k (f s)):Kp k (bindJ (cond b (some (.go p)) (some (.go q))) f):=by cases b <;> exact h _
theorem zir (c:zw) (op:Int) (l:List Int) (hl:l.length<1000000):∃ r,operC c op l=some (r,c):=by
 obtain ⟨r,hr⟩:=operT c.typer_.vars_ 1 1 3 3 c.kinds_ op l hl
 exact ⟨r,by unfold operC; simp only [hr,Option.map_some]⟩
theorem exprT:∀ (n:Nat) (c:zw) (x:zm) (deep:Int),x.nodes<n→x.nodes<1000000→Kp c.kinds_.length (z1r n c x deep)
  | 0,c,x,deep,h,_=>by omega
  | n + 1, c, x, deep, h, hb => by
    have hnx:=z4n x
    have hlen:=z4L x.Args
    show Kp _ (z1B n (z1r n) c x deep)
    unfold z1B
    refine z9c (fun _=>z87 (Nat.le_refl _)) fun _=>?_
    obtain ⟨r,h1,h2⟩:=z3s (step:=z34 x deep (z1r n)) (fun s=>∃ k:Nat,s.2.1=k∧k≤x.Args.length∧s.1.length=k∧c.kinds_.length≤s.2.2.2.2.length) (fun s=>x.Args.length - s.2.1.toNat)
      (fun r=>match r with | .go (a,_,_,e)=>a.length<1000000∧c.kinds_.length≤e.length | .stop (_,c')=>c.kinds_.length≤c'.kinds_.length) (fun ⟨ks,i,v,ru,kk⟩ ⟨k,hk,hle,hl,hc⟩=>by
      simp only at hk hl hc; subst hk
      unfold z34
      by_cases hlt:k<x.Args.length
      · simp only [show decide ((k:Int)<(x.Args.length:Int))=true by simp; omega,cond_true]
        have hx:=List.getElem?_eq_getElem hlt
        have:=z7c _ _ _ hx
        rw [z43 hx,z2P (N:=x.Args.length) (by omega) (by omega)]
        obtain ⟨b,c',hr,hc'⟩:=exprT n (zw.mk (zz.mk v ru) kk) x.Args[k] (IntKind.i64.wrap (deep+1)) (by omega) (by omega)
        simp only at hc'
        rw [hr]
        simp only [obind,Option.bind_some]
        cases b
        · exact .inr ⟨_,rfl,by simp only; omega⟩
        · simp only [Bool.not_true,cond_false]
          rw [zW (by simp; omega)]
          exact .inl ⟨_,rfl,⟨k+1,rfl,by omega,by simp [hl],by simp only; omega⟩,by simp; omega⟩
      · simp only [show decide ((k:Int)<(x.Args.length:Int))=false by simp; omega,cond_false]
        exact .inr ⟨_,rfl,by simp only; omega⟩) n ([],0,c.typer_.vars_,c.typer_.rules_,c.kinds_) ⟨0,rfl,by omega,rfl,Nat.le_refl _⟩ (by simp; omega)
    rw [h1]
    cases r with
    | stop q=>obtain ⟨b,c'⟩:=q; exact z87 h2
    | go q =>
      obtain ⟨ks,v,ru,kk⟩:=q
      obtain ⟨hks,h2⟩:=h2
      simp only [z12]
      refine jg_kp (z8E (fun _=>z8E (fun _=>ze8 h2) fun _=>jg_go) fun _=>jg_cc fun s=>z8E (fun _=>z8E (fun _=>ze8 h2) fun _=>jg_go) fun _=>jg_cc fun s=>z8E (fun _=>jg_go) fun _=>z8E (fun _=>jg_go) fun _=>
        z8E (fun _=>?_) fun _=>jg_cc fun s=>z8E (fun _=>jg_go) fun _=>z8E (fun _=>jg_go) fun _=>jg_go) fun ⟨le,mo,ki,a1,a2,a3⟩=>?_
      · by_cases hs:x.Slot<0∨(kk.length:Int)≤x.Slot
        · rw [show (decide (x.Slot<0) || decide ((kk.length:Int)≤x.Slot))=true by simpa using hs]
          exact ze8 h2
        · rw [show (decide (x.Slot<0) || decide ((kk.length:Int)≤x.Slot))=false by simp; omega,cond_false,z4l (by omega) (by omega)]
          exact jg_go
      · obtain ⟨r,hr⟩:=zir (zw.mk (zz.mk v ru) kk) x.Op ks hks
        simp only [hr,obind,Option.bind_some,z7x]
        cases decide (0<le)
        · simp only [cond_false,z12]; exact kp_cc fun s=>z87 h2
        · simp only [cond_true,z12]; exact kp_cc fun s=>z87 h2
theorem zic {k:Nat} {b:Bool} {o:Option (Bool×zw)} {vars:List zk} {ru:List Rul} {ks:List Int} {f:Bool×List zk×List Rul×List Int→Option (Bool×zw)} (ho:Kp k o) (hk:k≤ks.length) (hf:∀ (s:Bool) v r q,k≤q.length→Kp k (f (s,v,r,q))) :
  Kp k (bindJ (S:=Bool×List zk×List Rul×List Int) (cond b (obind o fun r=>some (.go (r.1,r.2.typer_.vars_,r.2.typer_.rules_,r.2.kinds_))) (some (.go (false,vars,ru,ks)))) f):=by
 obtain ⟨b',c',rfl,hc⟩:=ho
 cases b
 ·exact hf _ _ _ _ hk
 ·exact hf _ _ _ _ hc
theorem stmtT (n:Nat) (rec:zw→List z7→Int→Option (Bool×zw)) (c:zw) (x:z7) (deep:Int) (hx:x.X.nodes<n) (hx2:x.X.nodes<1000000) (h1:∀ c d,Kp c.kinds_.length (rec c x.Body d)) (h2:∀ c d,Kp c.kinds_.length (rec c x.Else d)) :
  Kp c.kinds_.length (z22 n rec c x deep):=by
 have up:∀ {a b:Nat} {o},a≤b→Kp b o→Kp a o:=fun h ⟨p,q,e,k⟩=>⟨p,q,e,Nat.le_trans h k⟩
 unfold z22
 refine z9c (fun _=>z87 (Nat.le_refl _)) fun _=>z9c (fun _=>z87 (Nat.le_refl _)) fun _=>z9c (fun _=>?_) fun _=>?_
 ·simp only [z6C,obind,Option.bind_some]
  have:=h1 c (IntKind.i64.wrap (deep+1))
  exact zic this (Nat.le_refl _) fun s v r q h=>z87 h
 ·obtain ⟨b,c',hr,hc⟩:=exprT n c x.X (IntKind.i64.wrap (deep+1)) hx hx2
  rw [hr]
  simp only [obind,Option.bind_some]
  refine z9c (fun _=>z87 hc) fun _=>z9c (fun _=>z9c (fun _=>z87 hc) fun h=>?_) fun _=>z9c (fun _=>?_) fun _=>?_
  ·simp at h
   rw [zW (by simp; omega)]
   exact z87 (by simp; omega)
  ·by_cases hs:0≤x.Slot∧x.Slot<(c'.kinds_.length:Int)
   ·rw [show (decide (0≤x.Slot) && decide (x.Slot<(c'.kinds_.length:Int)))=true by simpa using hs,cond_true,z4l hs.1 (by omega)]
    exact z87 hc
   ·rw [show (decide (0≤x.Slot) && decide (x.Slot<(c'.kinds_.length:Int)))=false by simpa using hs]
    exact z87 hc
  ·have hw:∃ w,z6S x.Kind=some w:=z63 (fun _=>⟨_,rfl⟩) fun _=>z63 (fun _=>⟨_,rfl⟩) fun _=>⟨_,rfl⟩
   obtain ⟨w,hw⟩:=hw
   rw [hw]
   simp only [Option.bind_some]
   refine up hc (kp_cc fun s=>zic (h1 c' _) (Nat.le_refl _) fun s2 v r q h=>?_)
   exact zic (up h (h2 (zw.mk (zz.mk v r) q) _)) h fun s v r q h=>z87 h
theorem zhk:∀ (n:Nat) (c:zw) (l:List z7) (deep:Int),z1y l+1<n→z1y l<1000000→Kp c.kinds_.length (zY n c l deep)
  | 0,c,l,deep,h,_=>by omega
  | n + 1, c, l, deep, h, hb => by
    have hlen:=z5H l
    show Kp _ (z16 n (zY n) c l deep)
    unfold z16
    obtain ⟨r,h1,h2⟩:=z3s (step:=z29 n l deep (zY n)) (fun s=>∃ k:Nat,s.1=k∧k≤l.length∧c.kinds_.length≤s.2.2.2.length) (fun s=>l.length - s.1.toNat)
      (fun r=>match r with | .go (_,_,e)=>c.kinds_.length≤e.length | .stop (_,c')=>c.kinds_.length≤c'.kinds_.length) (fun ⟨i,v,ru,kk⟩ ⟨k,hk,hle,hc⟩=>by
      simp only at hk hc; subst hk
      unfold z29
      by_cases hlt:k<l.length
      · simp only [show decide ((k:Int)<(l.length:Int))=true by simp; omega,cond_true]
        have hx:=List.getElem?_eq_getElem hlt
        have:=z7b _ _ _ hx
        have hns:=z5o l[k]
        rw [z43 hx,z2P (N:=l.length) (by omega) (by omega)]
        have hxn:=z4n l[k].X
        obtain ⟨b,c',hr,hc'⟩:=stmtT n (zY n) (zw.mk (zz.mk v ru) kk) l[k] deep (by omega) (by omega) (fun c d=>zhk n c _ d (by omega) (by omega)) (fun c d=>zhk n c _ d (by omega) (by omega))
        simp only at hc'
        rw [hr]
        simp only [obind,Option.bind_some]
        cases b
        · exact .inr ⟨_,rfl,by simp only; omega⟩
        · exact .inl ⟨_,rfl,⟨k+1,rfl,by omega,by simp only; omega⟩,by simp; omega⟩
      · simp only [show decide ((k:Int)<(l.length:Int))=false by simp; omega,cond_false]
        exact .inr ⟨_,rfl,by simp only; omega⟩) n (0,c.typer_.vars_,c.typer_.rules_,c.kinds_) ⟨0,rfl,by omega,Nat.le_refl _⟩ (by simp; omega)
    rw [h1]
    cases r with
    | stop q=>obtain ⟨b,c'⟩:=q; exact z87 h2
    | go q =>
      obtain ⟨v,ru,kk⟩:=q
      simp only at h2
      simp only [z12]
      rw [zW (by omega)]
      exact z87 (by simp; omega)
theorem znJ (n:Nat) (p:zG) (hn:z1y p.Code+8<n) (hl:z1y p.Code<1000000) (h:effB p.Effects):∃ b,z3e n p=some b:=by
 obtain ⟨h6,h1,h2⟩:=h
 unfold z3e
 have hl:iter (z5h p) n 0=some (.go ()):=z6J (step:=z5h p) p.Effects.length (.go ()) (fun i hi=>by
  unfold z5h
  simp only [show decide ((i:Int)<(p.Effects.length:Int))=true by simp; omega,cond_true]
  rw [z1J hi,w64 (x:=(i:Int)+1) (by omega) (by omega)]
  have:=h1 p.Effects[i] (List.getElem_mem _)
  rw [show (decide (p.Effects[i]<1) || decide (6<p.Effects[i]))=false by simp; omega]
  simp only [cond_false]
  by_cases h0:0<i
  ·rw [w64 (by omega) (by omega),show (i:Int) - 1=((i - 1:Nat):Int) by omega,z1J (by omega)]
   have h3:=h2 (i - 1) (by omega)
   have e:i - 1+1=i:=by omega
   simp only [e] at h3
   rw [show decide (0<(i:Int))=true by simp; omega,show decide (p.Effects[i]≤p.Effects[i - 1])=false by simp; omega]
   rfl
  ·rw [show decide (0<(i:Int))=false by simp; omega]
   rfl) (by unfold z5h; simp) n (by omega)
 rw [hl]
 obtain ⟨b,c,hb,_⟩:=zhk n (zw.mk (zz.mk [] []) []) p.Code 1 (by omega) (by omega)
 simp only [z12,hb,obind,Option.bind_some]
 exact ⟨_,rfl⟩
end Go.Proofs.YtgjcniomhahgkaaGreatDoor
namespace Go.Proofs.YtgjcniomhahgkaaGreatDoor
open Go.Abs
def encC:Cst→zD
 | none=>⟨false,0,0⟩
 | some a=>⟨true,(a.1:Int),(a.2:Int)⟩
def Cst.Ok (c:Cst):Prop:=∀ a,c=some a→a.1≤a.2∧a.2≤2199023255552
def Way.Ok (w:Way):Prop:=w.on.Ok∧w.en.Ok
def encW (w:Way):zJ:=⟨encC w.on,encC w.en⟩
theorem zgV:Cst.Ok none:=fun a h=>by cases h
theorem zgX {n:Nat} (h:n≤2199023255552):Cst.Ok (some (n,n)):=fun a e=>by cases e; exact ⟨Nat.le_refl _,h⟩
theorem zgW {a b:Cst} (ha:a.Ok) (hb:b.Ok):(plusC a b).Ok:=by
  intro c h
  cases a with
  | none=>cases h
  | some x =>
    cases b with
    | none=>cases h
    | some y =>
      have h1:=ha x rfl
      have h2:=hb y rfl
      cases h; simp only [TOP]; omega
theorem ok_or {a b:Cst} (ha:a.Ok) (hb:b.Ok):(orC a b).Ok:=by
  intro c h
  cases a with
  | none=>exact hb c h
  | some x =>
    have h1:=ha x rfl
    cases b with
    | none=>cases h; exact h1
    | some y =>
      have h2:=hb y rfl
      cases h; simp only; omega
theorem zer {a b:Cst} (ha:a.Ok) (hb:b.Ok):z1M (encC a) (encC b)=some (encC (plusC a b)):=by
  cases a with
  | none=>rfl
  | some x =>
    cases b with
    | none=>rfl
    | some y =>
      have h1:=ha x rfl
      have h2:=hb y rfl
      unfold z1M z3X
      simp only [encC,plusC,TOP,Bool.not_true,Bool.or_self,cond_false,obind,Option.bind_some]
      rw [w64 (by omega) (by omega),w64 (by omega) (by omega)]
      congr 2 <;> omega
theorem zis (a b:Cst):z1o (encC a) (encC b)=some (encC (orC a b)):=by
  cases a with
  | none=>rfl
  | some x =>
    cases b with
    | none=>rfl
    | some y =>
      unfold z1o
      simp only [encC,orC,Bool.not_true,cond_false]
      congr 2 <;> omega
theorem z9R {a b:Way} (ha:a.Ok) (hb:b.Ok):z1k (encW a) (encW b)=some (encW (a.seq b)):=by
 unfold z1k encW
 simp only [zer ha.1 hb.1,zer ha.1 hb.2,zis,obind,Option.bind_some]; rfl
theorem zjq (a b:Way):z2G (encW a) (encW b)=some (encW (a.alt b)):=by
 unfold z2G encW
 simp only [zis,obind,Option.bind_some]; rfl
theorem zaN {a b:Way} (ha:a.Ok) (hb:b.Ok):(a.seq b).Ok:=⟨zgW ha.1 hb.1,ok_or ha.2 (zgW ha.1 hb.2)⟩
theorem zl0 {a b:Way} (ha:a.Ok) (hb:b.Ok):(a.alt b).Ok:=⟨ok_or ha.1 hb.1,ok_or ha.2 hb.2⟩
theorem ok_ex {n:Nat} (h:n≤2199023255552):(ex n).Ok:=⟨zgX h,zgV⟩
theorem zeo:∀ (k:Nat) {w b:Way},w.Ok→b.Ok→(loopW k w b).Ok
 | 0,_,_,h,_=>h
 | k+1,_,_,h,hb=>zeo k (zaN h hb) hb
theorem zcl:∀ (k:Nat) {w b:Way},w.on=none→loopW k w b=w
  | 0,_,_,_=>rfl
  | k + 1, w, b, h => by
    have e:w.seq b=w:=by
      cases w with
      | mk on en =>
        simp only at h; subst h
        unfold Way.seq plusC
        simp only
        cases en <;> rfl
    rw [loopW,e]; exact zcl k h
def tlW (w:Way):Bool×Int×Int×Bool×Int×Int:=((encC w.on).is_,(encC w.on).lo_,(encC w.on).hi_,(encC w.en).is_,(encC w.en).lo_,(encC w.en).hi_)
theorem znn (c:Cst):(encC c).is_=c.isSome:=by cases c <;> rfl
theorem zev {v:Way} (hv:v.Ok) (N:Nat) (hN:N<1000000):∀ (k i n:Nat) (w:Way),i+k=N→k<n→w.Ok→iter (z4j N (encW v)) n ((i:Int),tlW w)=some (.go (tlW (loopW k w v)))
  | 0,i,0,w,_,h,_=>by omega
  | k+1,i,0,w,_,h,_=>by omega
  | 0, i, n + 1, w, hi, h, hw => by
    refine z3q ?_
    unfold z4j tlW
    simp only [show decide ((i:Int)<(N:Int))=false by simp; omega,cond_false]; rfl
  | k + 1, i, n + 1, w, hi, h, hw => by
    cases hon:w.on with
    | none =>
      rw [zcl _ hon]
      refine z3q ?_
      unfold z4j tlW
      simp only [show decide ((i:Int)<(N:Int))=true by simp; omega,cond_true,hon]; rfl
    | some x =>
      rw [loopW,← zev hv N hN k (i+1) n (w.seq v) (by omega) (by omega) (zaN hw hv)]
      refine z6K ?_
      have h1:=z9R hw hv
      unfold z4j tlW
      simp only [show decide ((i:Int)<(N:Int))=true by simp; omega,cond_true]
      rw [show (!(encC w.on).is_)=false by rw [znn,hon]; rfl,cond_false]
      rw [show (zJ.mk (zD.mk (encC w.on).is_ (encC w.on).lo_ (encC w.on).hi_) (zD.mk (encC w.en).is_ (encC w.en).lo_ (encC w.en).hi_))=encW w from rfl,h1]
      simp only [obind,Option.bind_some]
      rw [z2P (N:=N) (by omega) (by omega)]; rfl
theorem zew {v:Way} (hv:v.Ok) (n:Nat) (N:Int) (h0:0≤N) (h1:N≤1000) (hn:1000<n):z6j n N (encW v)=some (encW (loopW N.toNat (ex 0) v)):=by
 have h:=zev hv N.toNat (by omega) N.toNat 0 n (ex 0) (by omega) (by omega) (ok_ex (Nat.zero_le _))
 rw [show ((N.toNat:Nat):Int)=N by omega] at h
 unfold z6j z2I
 simp only [obind,Option.bind_some]
 have e:iter (z4j N (encW v)) n (0,true,0,0,false,0,0)=some (.go (tlW (loopW N.toNat (ex 0) v))):=h
 rw [e]; rfl
theorem zhr {x:zm} (h:x.nodes<1000000):costH x=some (x.nodes:Int):=by unfold costH; exact zW (by omega) _
mutual
theorem ok_S:∀ (s:z7),s.nodes<1000000→(wS s).Ok
  | ⟨kind, sl, n, nm, x, b, e⟩, h => by
    simp only [z7.nodes] at h
    rw [wS]
    split
    · exact zaN (ok_ex (by decide)) (zeo _ (ok_ex (by decide)) (zaN (ok_ex (by decide)) (ok_B b (ok_ex (by decide)) (by omega))))
    · split
      · exact zaN (ok_ex (by omega)) (zl0 (ok_B b (ok_ex (by decide)) (by omega)) (ok_B e (ok_ex (by decide)) (by omega)))
      · split
        · exact ⟨zgV,zgX (by omega)⟩
        · exact ok_ex (by omega)
theorem ok_B:∀ (l:List z7) {w:Way},w.Ok→z1y l<1000000→(wB w l).Ok
  | [],_,h,_=>by rw [wB]; exact h
  | s :: r, _, h, hn => by
    simp only [z1y] at hn
    rw [wB]; exact ok_B r (zaN h (ok_S s (by omega))) (by omega)
end
theorem ziD (n:Nat) (rec:List z7→Option zJ) (s:z7) (vs:List Int) (hr:rS s vs) (hn:s.nodes<1000000) (h1:1000<n) (hb:rec s.Body=some (encW (wB (ex 0) s.Body))) (he:rec s.Else=some (encW (wB (ex 0) s.Else))):z4k n rec s=some (encW (wS s)):=by
 have hns:=z5o s
 obtain ⟨hst,_⟩:=(rS_eq s vs).1 hr
 have hbo:=ok_B s.Body (ok_ex (n:=0) (by decide)) (by omega)
 have heo:=ok_B s.Else (ok_ex (n:=0) (by decide)) (by omega)
 have e1:∀ k:Int,zJ.mk (zD.mk true k k) (zD.mk false 0 0)=encW ⟨some (k.toNat,k.toNat),none⟩→True:=fun _ _=>trivial
 unfold z4k z2I
 rw [wS_eq]
 by_cases h6:s.Kind=6
 ·obtain ⟨_,_,_,q,_⟩:=hst
  obtain ⟨n0,n1⟩:=q h6
  simp only [h6,decide_true,cond_true,if_true,obind,Option.bind_some,hb]
  have e1:zJ.mk (zD.mk true 1 1) (zD.mk false 0 0)=encW (ex 1):=rfl
  rw [e1,z9R (ok_ex (by decide)) hbo]
  simp only [Option.bind_some]
  rw [zew (zaN (ok_ex (by decide)) hbo) n s.N n0 n1 h1]
  simp only [Option.bind_some]
  rw [z9R (ok_ex (by decide)) (zeo _ (ok_ex (by decide)) (zaN (ok_ex (by decide)) hbo))]; rfl
 ·have ew:IntKind.i64.wrap (1+(s.X.nodes:Int))=((1+s.X.nodes:Nat):Int):=by rw [w64 (by omega) (by omega)]; omega
  have e1:zJ.mk (zD.mk true ((1+s.X.nodes:Nat):Int) ((1+s.X.nodes:Nat):Int)) (zD.mk false 0 0)=encW (ex (1+s.X.nodes)):=rfl
  simp only [h6,decide_false,cond_false,if_false,zhr (x:=s.X) (by omega),obind,Option.bind_some,ew,e1]
  by_cases h5:s.Kind=5
  ·simp only [h5,decide_true,cond_true,if_true,hb,he,Option.bind_some,zjq]
   rw [z9R (ok_ex (by omega)) (zl0 hbo heo)]; rfl
  ·by_cases h8:s.Kind=8
   ·simp only [h8,h5,decide_true,decide_false,cond_true,cond_false,if_false,z12]; rfl
   ·by_cases h9:s.Kind=9
    ·simp [h9,encW,encC]
    ·simp [h8,h9,h5,encW,encC,ex]
theorem zdo {n:Nat} {rec:List z7→Option zJ} {l:List z7} (hl:l.length<1000000) (hs:∀ s∈l,z4k n rec s=some (encW (wS s))∧(wS s).Ok) :
    ∀ (r:List z7) (k j:Nat) (w:Way),l.drop k=r→r.length<j→k+r.length=l.length→w.Ok→iter (z5b n l rec) j ((k:Int),tlW w)=some (.go (tlW (wB w r)))
  | r,k,0,w,_,h,_,_=>absurd h (Nat.not_lt_zero _)
  | [], k, j + 1, w, hd, h, hk, hw => by
    refine z3q ?_
    unfold z5b tlW
    rw [wB]
    simp only [show decide ((k:Int)<(l.length:Int))=false by simp at hk; simp; omega,cond_false]
  | s :: r, k, j + 1, w, hd, h, hk, hw => by
    have hlt:k<l.length:=by simp at hk; omega
    have hx:l[k]? = some s:=by
      have:=congrArg (·[0]?) hd
      simpa using this
    obtain ⟨h1,h2⟩:=hs s (List.mem_of_getElem? hx)
    rw [wB,← zdo hl hs r (k+1) j (w.seq (wS s)) (by
      have:=congrArg List.tail hd
      simpa using this) (by simpa using h) (by simp at hk; omega) (zaN hw h2)]
    refine z6K ?_
    have h3:=z9R hw h2
    unfold z5b tlW
    simp only [show decide ((k:Int)<(l.length:Int))=true by simp; exact hlt,cond_true]
    rw [z43 hx]
    rw [show (zJ.mk (zD.mk (encC w.on).is_ (encC w.on).lo_ (encC w.on).hi_) (zD.mk (encC w.en).is_ (encC w.en).lo_ (encC w.en).hi_))=encW w from rfl,h1]
    simp only [obind,Option.bind_some,h3]
    rw [z2P (N:=l.length) (by omega) (by omega)]; rfl
theorem zl9:∀ (l:List z7) (vs:List Int),rB l vs→∀ s∈l,∃ ws,rS s ws
  | y :: r, vs, h, s, hs => by
    simp only [rB] at h
    rcases List.mem_cons.1 hs with rfl | hs
    · exact ⟨vs,h.1⟩
    · exact zl9 r _ h.2 s hs
theorem zbh:∀ (l:List z7) (s:z7),s∈l→s.nodes≤z1y l
  | y :: r, s, h => by
    simp only [z1y]
    rcases List.mem_cons.1 h with rfl | h
    · omega
    · have:=zbh r s h; omega
theorem zax:∀ (n:Nat) (l:List z7) (vs:List Int),z1y l+1002<n→z1y l<1000000→rB l vs→z4J n l=some (encW (wB (ex 0) l))
  | 0,l,vs,h,_,_=>by omega
  | n + 1, l, vs, h, hb, hr => by
    have hlen:=z5H l
    show z4z n (z4J n) l=_
    unfold z4z z2I
    simp only [obind,Option.bind_some]
    have:=zdo (n:=n) (rec:=z4J n) (l:=l) (by omega) (fun s hs=>by
      obtain ⟨ws,hws⟩:=zl9 l vs hr s hs
      have h1:=zbh l s hs
      have h2:=z5o s
      obtain ⟨_,_,q1,q2⟩:=(rS_eq s ws).1 hws
      have hx:=z4n s.X
      exact ⟨ziD n _ s ws hws (by omega) (by omega) (zax n s.Body ws (by omega) (by omega) q1) (zax n s.Else ws (by omega) (by omega) q2),ok_S s (by omega)⟩) l 0 n (ex 0) rfl (by omega) (by simp) (ok_ex (by decide))
    have e:iter (z5b n l (z4J n)) n (0,true,0,0,false,0,0)=some (.go (tlW (wB (ex 0) l))):=this
    rw [e]; rfl
theorem zb5 (k:Int):z4b k=some (if 1099511627776<k then (0,2) else (k,0)):=by
 unfold z4b
 by_cases h:1099511627776<k <;> simp [h]
theorem zkV (n:Nat) (p:zG) (hn:z1y p.Code+2000<n) (hb:z1y p.Code<1000000) (hr:rB p.Code []) (he:effB p.Effects) :
    (∃ e,z65 n p=some (0,e)∧e≠0∧∃ q,z64 n p=some q)∨
    (z65 n p=some ((((wB (ex 0) p.Code).M:Nat):Int),0)∧z3e n p=some true∧∃ lo:Nat,z64 n p=some ((lo:Int),0)∧∀ c,InC (wB (ex 0) p.Code).on c∨InC (wB (ex 0) p.Code).en c→lo≤c):=by
  obtain ⟨b,hT⟩:=znJ n p (by omega) hb he
  have hB:=zax n p.Code [] (by omega) hb hr
  have hNN:=NN_B p.Code (NN_ex 0)
  have hok:=ok_B p.Code (ok_ex (n:=0) (by decide)) hb
  generalize wB (ex 0) p.Code=w at hB hNN hok
  unfold z65 z64 z7K
  cases b
  · left
    simp only [hT,obind,Option.bind_some,Bool.not_false,cond_true]
    exact ⟨1,rfl,by decide,_,rfl⟩
  · simp only [hT,obind,Option.bind_some,Bool.not_true,cond_false,hB]
    have h1:z1o (encW w).on_ (encW w).end_=some (encC (orC w.on w.en)):=zis _ _
    have h2:=ok_or hok.1 hok.2
    have h3:w.M=hi (orC w.on w.en):=by unfold Way.M; rw [ze2]
    have h4:∀ c,InC w.on c∨InC w.en c→InC (orC w.on w.en) c:=fun c h=>h.elim InC.orL InC.orR
    have h5:∃ a,orC w.on w.en=some a:=by
      unfold Way.NN at hNN
      cases h:w.on with
      | some x=>cases w.en <;> exact ⟨_,rfl⟩
      | none => cases h2 : w.en with
        | some y=>exact ⟨_,rfl⟩
        | none=>exact (hNN.elim (fun q=>q h) (fun q=>q h2)).elim
    obtain ⟨a,ha⟩:=h5
    rw [ha] at h1 h2 h3
    have h6:=h2 a rfl
    simp only [h1,Option.bind_some]
    have c1:z4b (encC (some a)).hi_=some (if 1099511627776<(a.2:Int) then (0,2) else ((a.2:Int),0)):=zb5 _
    have c2:z4b (encC (some a)).lo_=some (if 1099511627776<(a.1:Int) then (0,2) else ((a.1:Int),0)):=zb5 _
    simp only [show (!(encC (some a)).is_)=false from rfl,cond_false,c1,c2,Option.bind_some]
    by_cases hc:1099511627776<(a.2:Int)
    · left
      rw [if_pos hc]
      exact ⟨2,rfl,by decide,_,rfl⟩
    · right
      rw [if_neg hc,if_neg (by omega)]
      refine ⟨by rw [h3]; rfl,trivial,a.1,rfl,fun c h=>?_⟩
      obtain ⟨x,hx,h7,_⟩:=h4 c h
      rw [ha] at hx; cases hx; exact h7
end Go.Proofs.YtgjcniomhahgkaaGreatDoor
namespace Go.Proofs.YtgjcniomhahgkaaGreatDoor
open Go.Abs
def out0 (e:zP):zA:=⟨⟨e.Headers,e.Status⟩,[],0,[]⟩
theorem zdl (e:zP) (h:e.Headers.length≤10):z4K e=some (mk [] 0 [] [] [] (out0 e) 0).Cpu:=by
 unfold z4K zQ
 rw [zW (by simp; omega)]; rfl
theorem zfQ (m:zH) (e:zP) (h:e.Headers.length≤10):z6l m (mk [] 0 [] [] [] (out0 e) 0).Cpu=some (mk m.Code 0 [] [] [] (out0 e) 0):=by
 have h1:zR (mk [] 0 [] [] [] (out0 e) 0).Cpu.Stack=some []:=zW (by show 0+0≤_; omega) _
 have h2:zR (mk [] 0 [] [] [] (out0 e) 0).Cpu.Slots=some []:=zW (by show 0+0≤_; omega) _
 have h3:z15 (mk [] 0 [] [] [] (out0 e) 0).Cpu.Loops=some []:=zW (by show 0+0≤_; omega) _
 have h4:z2U (mk [] 0 [] [] [] (out0 e) 0).Cpu.Out.Logs=some []:=zW (by show 0+0≤_; omega) _
 have h5:zQ (mk [] 0 [] [] [] (out0 e) 0).Cpu.Out.Edge.Headers=some e.Headers:=zW (by show 0+e.Headers.length≤_; omega) _
 unfold z6l
 rw [h1,h2,h3,h4,h5]; rfl
theorem zku {n:Nat} {m:zH} {most:Int} {r:zi} (h:r.Cpu.Over=true):z4c n m most (tup r)=some (.stop (.go (tup r))):=by
 obtain ⟨⟨a1,a2,a3,a4,⟨⟨b1,b2⟩,b3,b4,b5⟩,a6,a7,a8⟩,c⟩:=r
 simp only at h; subst h
 rfl
theorem go_eq (n:Nat) (m:zH) (most:Int) (e:zP) (h:e.Headers.length≤10) {r:zi} (hi:iter (z4c n m most) n (tup (mk m.Code 0 [] [] [] (out0 e) 0))=some (.go (tup r))):z5c n m (mk [] 0 [] [] [] (out0 e) 0).Cpu most=some r.Cpu:=by
 unfold z5c
 rw [zfQ m e h]
 simp only [obind,Option.bind_some,z2V]
 have e1:iter (z4c n m most) n ((mk m.Code 0 [] [] [] (out0 e) 0).Cpu.At,(mk m.Code 0 [] [] [] (out0 e) 0).Cpu.Stack,(mk m.Code 0 [] [] [] (out0 e) 0).Cpu.Slots,(mk m.Code 0 [] [] [] (out0 e) 0).Cpu.Loops,(mk m.Code 0 [] [] [] (out0 e) 0).Cpu.Out.Edge.Headers,(mk m.Code 0 [] [] [] (out0 e) 0).Cpu.Out.Edge.Status,(mk m.Code 0 [] [] [] (out0 e) 0).Cpu.Out.Logs,(mk m.Code 0 [] [] [] (out0 e) 0).Cpu.Out.End,(mk m.Code 0 [] [] [] (out0 e) 0).Cpu.Out.Text,(mk m.Code 0 [] [] [] (out0 e) 0).Cpu.Spent,(mk m.Code 0 [] [] [] (out0 e) 0).Cpu.Over,(mk m.Code 0 [] [] [] (out0 e) 0).Cpu.E,(mk m.Code 0 [] [] [] (out0 e) 0).code_)=some (.go (tup r)):=hi
 rw [e1]
 obtain ⟨⟨a1,a2,a3,a4,⟨⟨b1,b2⟩,b3,b4,b5⟩,a6,a7,a8⟩,c⟩:=r
 rfl
def Fin (l:List z7) (e:zP) (c:zN):Prop:=
 c.Over=true∧(Er c.E∨c.E=0∧∃ k:Nat,c.Spent=k∧(InC (wB (ex 0) l).on k∨InC (wB (ex 0) l).en k)∧Ef (hasB · l) (out0 e) c.Out∧(c.Out.End=0∨Fk (hasB · l) c.Out)∧c.Out.Edge.Headers.length≤20010)
theorem znd (n:Nat) (m:zH) (l:List z7) (e:zP) (hn:100000≤n) (hC:m.Code=cB l 0 0) (hr:rB l []) (hl:z1y l≤200) (hh:e.Headers.length≤10) (hm:(wB (ex 0) l).M≤20000) :
    ∃ c,z5c n m (mk [] 0 [] [] [] (out0 e) 0).Cpu ((wB (ex 0) l).M:Nat)=some c∧Fin l e c:=by
  have hcl:=z7J l 0 0
  have cx:Cx n m ((wB (ex 0) l).M:Nat) (cB l 0 0):=⟨hn,hC,by omega,by omega⟩
  by_cases h0:cB l 0 0=[]
  · -- nothing to be done
    have hl0:l=[]:=by
      cases l with
      | nil=>rfl
      | cons s r =>
        exfalso
        have:0<(cS s 0 0).length:=by
          cases s with
          | mk a b c d x t f=>rw [cS]; split <;> first | (simp; done) | (split <;> simp)
        rw [cB] at h0
        rw [(List.append_eq_nil_iff.1 h0).1] at this
        simp at this
    subst hl0
    refine ⟨(fin m.Code (out0 e) 0).Cpu,?_,rfl,.inr ⟨rfl,0,rfl,.inl ?_,Ef.refl,.inl rfl,by simp [fin,out0]; omega⟩⟩
    · refine go_eq n m _ e hh (r:=fin m.Code (out0 e) 0) ?_
      obtain ⟨k,rfl⟩ : ∃ k,n=k+1:=⟨n - 1,by omega⟩
      refine z3q ?_
      rw [hC,h0]
      unfold z4c
      rw [hC,h0]; rfl
    · rw [wB]; exact ex_on 0
  · have hpos:0<(cB l 0 0).length:=List.length_pos_iff.2 h0
    have h:=runB cx l [] 0 [] [] (out0 e) 0 (ex 0) 0 hr ⟨[],[],by simp,rfl⟩ rfl (by simp) (by simp) (by simp; omega) (by simp [out0]; omega) (ex_on 0) (show _<2199023255552 by omega) (by omega)
    rw [show rn (cB l 0 0) 0 [] [] [] (out0 e) (0+0)=mk (cB l 0 0) 0 [] [] [] (out0 e) 0 by unfold rn; rw [if_neg (by omega)]] at h
    have fin:∀ r:zi,r.Cpu.Over=true→r.Cpu.Spent≤20000→Sp n m ((wB (ex 0) l).M:Nat) 0 (mk (cB l 0 0) 0 [] [] [] (out0 e) 0) r→z5c n m (mk [] 0 [] [] [] (out0 e) 0).Cpu ((wB (ex 0) l).M:Nat)=some r.Cpu:=by
      intro r ho hs ⟨k,hk,hi⟩
      refine go_eq n m _ e hh ?_
      rw [hC]
      have h1:=hi (n - k)
      rw [mk_sp] at hk
      rw [show n - k+k=n by omega] at h1
      rw [h1,show n - k=(n - k - 1)+1 by omega]
      exact z3q (zku ho)
    have hle:∀ c,InC (wB (ex 0) l).on c∨InC (wB (ex 0) l).en c→c≤20000:=fun c hc=>by
      have:c≤(wB (ex 0) l).M:=by
        unfold Way.M
        rcases hc with hc | hc
        · have:=hc.le; omega
        · have:=hc.le; omega
      omega
    rcases h with ⟨vs,o',c,a1,a2,a3,a4,a5,a6,a7⟩ | ⟨o',c,a1,a2,a3,a4⟩ | ⟨er,c,a1,a2,a3⟩
    · rw [Nat.zero_add,Nat.zero_add] at a1
      rw [show rn (cB l 0 0) (cB l 0 ([]:List Int).length).length [] vs [] o' c=Go.Proofs.YtgjcniomhahgkaaGreatDoor.fin (cB l 0 0) o' c from if_pos rfl] at a1
      have:=hle c (.inl a4)
      exact ⟨_,fin _ rfl (by rw [zfv]; omega) a1,rfl,.inr ⟨rfl,c,rfl,.inl a4,a5,.inl a6,by simp only [Go.Proofs.YtgjcniomhahgkaaGreatDoor.fin]; omega⟩⟩
    · rw [Nat.zero_add] at a1
      have:=hle c (.inr a2)
      exact ⟨_,fin _ rfl (by rw [zfv]; omega) a1,rfl,.inr ⟨rfl,c,rfl,.inr a2,a3,.inr a4.1,by have:=a4.2; simp only [Go.Proofs.YtgjcniomhahgkaaGreatDoor.fin]; omega⟩⟩
    · rw [Nat.zero_add] at a1
      exact ⟨_,fin _ rfl (by rw [zdH]; omega) a1,rfl,.inl a2⟩
theorem zll {n:Nat} {m:zH} {e:zP} {most:Int} {c:zN} (hh:e.Headers.length≤10) (h:z5c n m (mk [] 0 [] [] [] (out0 e) 0).Cpu most=some c) (h1:c.Over=true) (h2:c.E=0):z66 n m e most=some (c.Out,0):=by
 unfold z66
 simp only [zdl e hh,obind,Option.bind_some,h,h1,h2,Bool.not_true,cond_false]
 rfl
end Go.Proofs.YtgjcniomhahgkaaGreatDoor
namespace Go.Proofs.YtgjcniomhahgkaaGreatDoor
open Go.Abs
theorem zg7 (n:Nat) (a:List (List UInt8)) (hn:a.length<n) (hl:a.length<1000000):z7P n a a=some true:=by
 unfold z7P
 have h:=z6J (step:=z70 a a) a.length (.go ()) (fun i hi=>by
  unfold z70
  simp only [show decide ((i:Int)<(a.length:Int))=true by simp; omega,cond_true]
  rw [z1J hi,z1J hi,z2P (N:=a.length) (by omega) (by omega)]
  simp) (by unfold z70; simp) n hn
 rw [h]; simp
theorem zbJ (n:Nat) (a:zA) (hn:a.Logs.length<n) (hl:a.Logs.length<1000000) (hn2:a.Edge.Headers.length<n) (hl2:a.Edge.Headers.length<1000000):z4B n a a=some true:=by
 unfold z4B
 have h:=z6J (step:=z4v a a) a.Edge.Headers.length (.go ()) (fun i hi=>by
  unfold z4v
  simp only [show decide ((i:Int)<(a.Edge.Headers.length:Int))=true by simp; omega,cond_true]
  rw [z1J hi,z1J hi,z2P (N:=a.Edge.Headers.length) (by omega) (by omega)]
  simp) (by unfold z4v; simp) n hn2
 rw [zg7 n a.Logs hn hl]
 simp [obind,h]
theorem znf (n:Nat) (l:List Int) (x:Int) (hn:l.length<n) (hl:l.length<1000000):z1S n l x=some (decide (x∈l)):=by
 unfold z1S
 obtain ⟨r,h1,h2⟩:=z3s (step:=z6c l x) (fun s=>∃ k:Nat,s=k∧k≤l.length∧∀ j,j<k→∀ h:j<l.length,l[j]≠x) (fun s=>l.length - s.toNat) (fun r=>match r with | .go _=>x ∉ l | .stop b=>b=true∧x∈l) (fun s ⟨k,hk,hle,hs⟩=>by
  subst hk
  unfold z6c
  by_cases hc:k<l.length
  ·simp only [show decide ((k:Int)<(l.length:Int))=true by simp; omega,cond_true]
   rw [z1J hc,z2P (N:=l.length) (by omega) (by omega)]
   by_cases he:l[k]=x
   ·simp only [he,decide_true,cond_true]
    exact .inr ⟨_,rfl,rfl,he ▸ List.getElem_mem _⟩
   ·simp only [he,decide_false,cond_false]
    refine .inl ⟨_,rfl,⟨k+1,rfl,by omega,fun j hj hl=>?_⟩,by simp; omega⟩
    by_cases hjk:j=k
    ·subst hjk; exact he
    ·exact hs j (by omega) hl
  ·simp only [show decide ((k:Int)<(l.length:Int))=false by simp; omega,cond_false]
   refine .inr ⟨_,rfl,fun hm=>?_⟩
   obtain ⟨j,hj,e⟩:=List.getElem_of_mem hm
   exact hs j (by omega) hj e) n 0 ⟨0,rfl,by omega,fun j h=>by omega⟩ (by simp; omega)
 rw [h1]
 cases r with
 | go u=>simp only at h2; simp [h2]
 | stop b=>obtain ⟨rfl,h3⟩:=h2; simp [h3]
mutual
theorem zhV {k e:Int} (he:e≠1) (hk:∀ q,kindE q=e↔q=k):∀ s:z7,s.effs e=true↔hasS k s
  | ⟨q, _, _, _, x, b, l⟩ => by
    rw [z7.effs,hasS]
    simp only [Bool.or_eq_true,decide_eq_true_eq,Bool.and_eq_true,hk,he,false_and,or_false,z9j he hk b,z9j he hk l,or_assoc]
theorem z9j {k e:Int} (he:e≠1) (hk:∀ q,kindE q=e↔q=k):∀ l:List z7,effsB e l=true↔hasB k l
 | []=>by rw [effsB,hasB]; simp
 | s::r=>by rw [effsB,hasB,Bool.or_eq_true,zhV he hk s,z9j he hk r]
end
theorem zfL {e k:Int} (h:(e=2∧k=3)∨(e=3∧k=4)∨(e=4∧k=7)∨(e=5∧k=8)∨(e=6∧k=9)) (q:Int):kindE q=e↔q=k:=by
 unfold kindE
 repeat' split
 all_goals omega
mutual
theorem zmy:∀ s:z7,s.cnt=s.nodes
 | ⟨_,_,_,_,x,b,l⟩=>by rw [z7.cnt,z7.nodes,zc0 b,zc0 l]
theorem zc0:∀ l:List z7,cntB l=z1y l
 | []=>by rw [cntB,z1y]
 | s::r=>by rw [cntB,z1y,zmy s,zc0 r]
end
def usedL (l:List z7):List Int:=([1,2,3,4,5,6]:List Int).filter fun e=>effsB e l
theorem zlF (n:Nat) (p:zG) (hn:z1y p.Code<1000000) (h:z3e n p=some true):usedH n p=some (usedL p.Code):=by
 unfold usedH
 rw [zW (by rw [zc0]; omega),h]; rfl
theorem ziR (l:List z7):(usedL l).length≤6:=by
 have:=List.length_filter_le (fun e=>effsB e l) ([1,2,3,4,5,6]:List Int)
 simpa [usedL] using this
theorem z9U (n:Nat) (hn:1000<n) (l:List z7) {e k:Int} (h:(e=2∧k=3)∨(e=3∧k=4)∨(e=4∧k=7)∨(e=5∧k=8)∨(e=6∧k=9)):∃ b,z1S n (usedL l) e=some b∧(b=false→¬ hasB k l):=by
 have:=ziR l
 refine ⟨_,znf n _ _ (by omega) (by omega),fun hb hk=>?_⟩
 have h1:=(z9j (by omega) (zfL h) l).2 hk
 simp only [decide_eq_false_iff_not,usedL,List.mem_filter,not_and] at hb
 refine hb ?_ h1
 rcases h with ⟨rfl,_⟩ | ⟨rfl,_⟩ | ⟨rfl,_⟩ | ⟨rfl,_⟩ | ⟨rfl,_⟩ <;> simp
theorem ze1 (n:Nat) (e:zP) (r:zA×Int) (hh:r.1.Edge.Headers=e.Headers) (hn:e.Headers.length<n) (hl:e.Headers.length<1000000):iter (z2d e r) n 0=some (.go ()):=by
 refine z6J (step:=z2d e r) e.Headers.length (.go ()) (fun i hi=>?_) ?_ n hn
 ·unfold z2d
  simp only [show decide ((i:Int)<(e.Headers.length:Int))=true by simp; omega,cond_true,hh,ne_eq,not_true_eq_false,decide_false,cond_false]
  rw [z1J hi,z1J hi,z2P (N:=e.Headers.length) (by omega) (by omega)]
  simp
 ·unfold z2d; simp
end Go.Proofs.YtgjcniomhahgkaaGreatDoor
namespace Go.Abs
theorem ofInt_nat {n:Nat} (k:Nat) (h:n<2 ^ k):(BitVec.ofInt k (n:Int)).toNat=n:=by
 simp
 norm_cast
 exact Nat.mod_eq_of_lt h
theorem bitOr_shift {z x n:Nat} (hz:z<2 ^ n) (h:z+x*2 ^ n<2 ^ 64):bitOr .u64 (z:Int) ((x*2 ^ n:Nat):Int)=((z+x*2 ^ n:Nat):Int):=by
 unfold bitOr
 have h1:z<2 ^ 64:=by omega
 have h2:x*2 ^ n<2 ^ 64:=by omega
 have e:z ||| x*2 ^ n=z+x*2 ^ n:=by
  have:=Nat.shiftLeft_add_eq_or_of_lt hz x
  rw [Nat.shiftLeft_eq] at this
  rw [Nat.or_comm,← this,Nat.add_comm]
 rw [BitVec.toNat_or]
 have a1:=ofInt_nat (n:=z) IntKind.u64.bits h1
 have a2:=ofInt_nat (n:=x*2 ^ n) IntKind.u64.bits h2
 rw [a1,a2,e,zfb (by omega) (by omega)]
theorem bitAnd_low {c:Nat} (h:c<256):zaw .u8 (c:Int) 127=((c % 128:Nat):Int):=by
 unfold zaw
 rw [BitVec.toNat_and]
 have a1:=ofInt_nat (n:=c) IntKind.u8.bits h
 have a2:(BitVec.ofInt IntKind.u8.bits 127).toNat=127:=rfl
 have e:c &&& 127=c % 128:=Nat.and_two_pow_sub_one_eq_mod c 7
 rw [a1,a2,e,zh9]
 omega
theorem bitAnd_one {z:Nat} (h:z<2 ^ 64):zaw .u64 (z:Int) 1=((z % 2:Nat):Int):=by
 unfold zaw
 rw [BitVec.toNat_and]
 have a1:=ofInt_nat (n:=z) IntKind.u64.bits h
 have a2:(BitVec.ofInt IntKind.u64.bits 1).toNat=1:=rfl
 rw [a1,a2,Nat.and_one_is_mod,zfb (by omega) (by omega)]
set_option maxRecDepth 20000 in
theorem or128:∀ n<256,n ||| 128=n % 128+128:=by decide
theorem bitOr_high {z:Nat}:bitOr .u8 (((z % 256:Nat)):Int) 128=((z % 128+128:Nat):Int):=by
 unfold bitOr
 rw [BitVec.toNat_or]
 have a1:=ofInt_nat (n:=z % 256) IntKind.u8.bits (by show _<256; omega)
 have a2:(BitVec.ofInt IntKind.u8.bits 128).toNat=128:=rfl
 rw [a1,a2,or128 _ (by omega),zh9]
 have:(z % 256) % 128=z % 128:=by omega
 rw [this]
 omega
def zig (n:Int):Nat:=if 0≤n then (2*n).toNat else (-2*n - 1).toNat
def unzig (z:Nat):Int:=if z % 2=1 then -1 - (z / 2:Nat) else (z / 2:Nat)
theorem zig_lt {n:Int} (h1 : -9223372036854775808≤n) (h2:n≤9223372036854775807):zig n<2 ^ 64:=by unfold zig; split <;> omega
theorem unzig_zig (n:Int):unzig (zig n)=n:=by unfold unzig zig; split <;> split <;> omega
theorem unzig_lo {z:Nat} (h:z<2 ^ 64) : -9223372036854775808≤unzig z:=by unfold unzig; split <;> omega
theorem unzig_hi {z:Nat} (h:z<2 ^ 64):unzig z≤9223372036854775807:=by unfold unzig; split <;> omega
theorem xor_zig {n:Int} (h1 : -9223372036854775808≤n) (h2:n≤9223372036854775807) :
  zdn .u64 (IntKind.u64.wrap (IntKind.u64.wrap n*2 ^ (min (1:Int).toNat IntKind.u64.bits))) (IntKind.u64.wrap (n.fdiv (2 ^ (min (63:Int).toNat IntKind.i64.bits))))=(zig n:Int):=by
 have e1:min (1:Int).toNat IntKind.u64.bits=1:=rfl
 have e2:min (63:Int).toNat IntKind.i64.bits=63:=rfl
 rw [e1,e2]
 by_cases hn:0≤n
 ·have f1:n.fdiv (2 ^ 63)=0:=by rw [Int.fdiv_eq_ediv_of_nonneg _ (by omega)]; omega
  have f2:IntKind.u64.wrap n=n:=zfb hn (by omega)
  have f3:IntKind.u64.wrap (n*2 ^ 1)=n*2:=zfb (by omega) (by omega)
  rw [f1,f2,f3,show IntKind.u64.wrap 0=0 from zfb (by omega) (by omega)]
  unfold zdn
  rw [BitVec.toNat_xor]
  obtain ⟨m,rfl⟩:=Int.eq_ofNat_of_zero_le hn
  have a1:=ofInt_nat (n:=m*2) IntKind.u64.bits (by show _<2 ^ 64; omega)
  rw [show ((m:Int)*2)=((m*2:Nat):Int) by omega,a1,show (BitVec.ofInt IntKind.u64.bits 0).toNat=0 from rfl,Nat.xor_zero,zfb (by omega) (by omega)]
  unfold zig; rw [if_pos hn]; omega
 ·have f1:n.fdiv (2 ^ 63) = -1:=by rw [Int.fdiv_eq_ediv_of_nonneg _ (by omega)]; omega
  have f2:IntKind.u64.wrap n=n+18446744073709551616:=by
   unfold IntKind.wrap; simp only [IntKind.signed,IntKind.bits]; simp; omega
  have f3:IntKind.u64.wrap ((n+18446744073709551616)*2 ^ 1)=n*2+18446744073709551616:=by
   unfold IntKind.wrap; simp only [IntKind.signed,IntKind.bits]; simp; omega
  have f4:IntKind.u64.wrap (-1)=18446744073709551615:=by rfl
  rw [f1,f2,f3,f4]
  unfold zdn
  obtain ⟨m,hm⟩ : ∃ m:Nat,n*2+18446744073709551616=(m:Int):=⟨(n*2+18446744073709551616).toNat,by omega⟩
  rw [hm]
  have hones:BitVec.ofInt IntKind.u64.bits 18446744073709551615=BitVec.allOnes IntKind.u64.bits:=by rfl
  rw [hones,BitVec.xor_allOnes,BitVec.toNat_not]
  have a1:=ofInt_nat (n:=m) IntKind.u64.bits (by show _<2 ^ 64; omega)
  rw [a1]
  show IntKind.u64.wrap ((2 ^ 64 - 1 - m:Nat):Int)=_
  rw [zfb (by omega) (by omega)]
  unfold zig; rw [if_neg hn]; omega
theorem unzig_xor {z:Nat} (h:z<2 ^ 64) :
  zdn .i64 ((z / 2:Nat):Int) (IntKind.i64.wrap (0 - ((z % 2:Nat):Int)))=unzig z:=by
 have hl:z / 2<2 ^ 63:=by omega
 by_cases ho:z % 2=1
 ·rw [ho]
  have f:IntKind.i64.wrap (0 - ((1:Nat):Int)) = -1:=by rfl
  rw [f]
  unfold zdn
  have hones:BitVec.ofInt IntKind.i64.bits (-1)=BitVec.allOnes IntKind.i64.bits:=by rfl
  rw [hones,BitVec.xor_allOnes,BitVec.toNat_not]
  have a1:=ofInt_nat (n:=z / 2) IntKind.i64.bits (by show _<2 ^ 64; omega)
  rw [a1]
  show IntKind.i64.wrap ((2 ^ 64 - 1 - z / 2:Nat):Int)=_
  unfold unzig IntKind.wrap
  simp only [IntKind.signed,IntKind.bits,ho,if_pos]
  simp
  omega
 ·have h0:z % 2=0:=by omega
  rw [h0]
  have f:IntKind.i64.wrap (0 - ((0:Nat):Int))=0:=by rfl
  rw [f]
  unfold zdn
  have a1:=ofInt_nat (n:=z / 2) IntKind.i64.bits (by show _<2 ^ 64; omega)
  rw [BitVec.toNat_xor,a1,show (BitVec.ofInt IntKind.i64.bits 0).toNat=0 from rfl,Nat.xor_zero,z77 (by omega) (by omega)]
  unfold unzig; rw [if_neg ho]
theorem shr7 (z:Nat):(z:Int).fdiv (2 ^ (min (7:Int).toNat IntKind.u64.bits))=((z / 128:Nat):Int):=by
 have e:min (7:Int).toNat IntKind.u64.bits=7:=rfl
 rw [e,Int.fdiv_eq_ediv_of_nonneg _ (by omega)]
 rfl
theorem shr1 (z:Nat):(z:Int).fdiv (2 ^ (min (1:Int).toNat IntKind.u64.bits))=((z / 2:Nat):Int):=by
 have e:min (1:Int).toNat IntKind.u64.bits=1:=rfl
 rw [e,Int.fdiv_eq_ediv_of_nonneg _ (by omega)]
 rfl
theorem toNat_ofNat8 {n:Nat} (h:n<256):(UInt8.ofNat n).toNat=n:=by simp [UInt8.toNat_ofNat']; omega
end Go.Abs
namespace Go.Abs
def encU (z:Nat):List UInt8:=if z<128 then [UInt8.ofNat z] else UInt8.ofNat (z % 128+128)::encU (z / 128)
termination_by z
decreasing_by omega
def encI (n:Int):List UInt8:=encU (zig n)
def encS (s:List UInt8):List UInt8:=encI s.length++s
def encL {α:Type} (one:α→List UInt8) (l:List α):List UInt8:=encI l.length++l.flatMap one
theorem encU_lt {z:Nat} (h:z<128):encU z=[UInt8.ofNat z]:=by rw [encU,if_pos h]
theorem encU_ge {z:Nat} (h:¬ z<128):encU z=UInt8.ofNat (z % 128+128)::encU (z / 128):=by rw [encU,if_neg h]
theorem encU_pos (z:Nat):1≤(encU z).length:=by rw [encU]; split <;> simp
theorem encU_len:∀ (k z:Nat),z<2 ^ (7*(k+1))→(encU z).length≤k+1
  | 0,z,h=>by rw [encU_lt (by simpa using h)]; simp
  | k + 1, z, h => by
    by_cases h1:z<128
    · rw [encU_lt h1]; simp
    · rw [encU_ge h1,List.length_cons]
      have:z / 128<2 ^ (7*(k+1)):=by
        rw [Nat.div_lt_iff_lt_mul (by omega)]
        rw [show 7*(k+1+1)=7*(k+1)+7 by omega,Nat.pow_add] at h
        simpa using h
      have:=encU_len k _ this
      omega
theorem encU_le10 {z:Nat} (h:z<2 ^ 64):(encU z).length≤10:=encU_len 9 z (by omega)
theorem encI_len {n:Int} (h1 : -9223372036854775808≤n) (h2:n≤9223372036854775807):1≤(encI n).length∧(encI n).length≤10:=⟨encU_pos _,encU_le10 (zig_lt h1 h2)⟩
def getU:Nat→List UInt8→Nat×Nat×Nat
  | _,[]=>(0,0,10)
  | k, c :: r =>
    if (k=9∧1<c.toNat)∨(0<k∧c.toNat=0) then (0,0,11)
    else if c.toNat<128 then (c.toNat,1,0)
    else let x:=getU (k+1) r; if x.2.2=0 then (c.toNat - 128+128*x.1,x.2.1+1,0) else (0,0,x.2.2)
def getI (b:List UInt8):Int×Nat×Nat:=let x:=getU 0 b; if x.2.2=0 then (unzig x.1,x.2.1,0) else (0,0,x.2.2)
def lenD (b:List UInt8) (least:Nat):Nat×Nat×Nat:=
 let x:=getI b
 if x.2.2≠0 then (0,0,x.2.2) else if x.1<0 then (0,0,11) else if (b.length - x.2.1) / least<x.1.toNat then (0,0,10) else (x.1.toNat,x.2.1,0)
def getS (b:List UInt8):List UInt8×Nat×Nat:=
 let x:=lenD b 1; if x.2.2≠0 then ([],0,x.2.2) else ((b.drop x.2.1).take x.1,x.2.1+x.1,0)
def getN {α:Type} (one:List UInt8→α×Nat×Nat):Nat→List UInt8→List α×Nat×Nat
  | 0,_=>([],0,0)
  | n + 1, b => let x := one b; if x.2.2 ≠ 0 then ([], 0, x.2.2) else
    let y:=getN one n (b.drop x.2.1); if y.2.2≠0 then ([],0,y.2.2) else (x.1::y.1,x.2.1+y.2.1,0)
def getL {α:Type} (one:List UInt8→α×Nat×Nat) (least:Nat) (b:List UInt8):List α×Nat×Nat:=
 let x:=lenD b least; if x.2.2≠0 then ([],0,x.2.2) else
  let y:=getN one x.1 (b.drop x.2.1); if y.2.2≠0 then ([],0,y.2.2) else (y.1,x.2.1+y.2.1,0)
def getD (b:List UInt8):List UInt8×Nat×Nat:=(b.take 16,16,0)
theorem getU_ok:∀ (b:List UInt8) (k:Nat),k≤9→(getU k b).2.2=0→1≤(getU k b).2.1∧(getU k b).2.1≤b.length∧(getU k b).2.1+k≤10∧(getU k b).1<2 ^ (64 - 7*k)
  | [],k,_,h=>by simp [getU] at h
  | c :: r, k, hk, h => by
    unfold getU at h ⊢
    by_cases h1:(k=9∧1<c.toNat)∨(0<k∧c.toNat=0)
    · rw [if_pos h1] at h; simp at h
    · rw [if_neg h1] at h ⊢
      by_cases h2:c.toNat<128
      · rw [if_pos h2]
        refine ⟨Nat.le_refl _,by simp,by simp; omega,?_⟩
        simp only
        by_cases h9:k=9
        · subst h9
          have:¬ 1<c.toNat:=fun h=>h1 (.inl ⟨rfl,h⟩)
          simp; omega
        · have:2 ^ 7≤2 ^ (64 - 7*k):=Nat.pow_le_pow_right (by omega) (by omega)
          omega
      · rw [if_neg h2] at h ⊢
        have h9:k≠9:=fun e=>h1 (.inl ⟨e,by omega⟩)
        simp only at h ⊢
        by_cases h3:(getU (k+1) r).2.2=0
        · obtain ⟨a1,a2,a3,a4⟩:=getU_ok r (k+1) (by omega) h3
          rw [if_pos h3]
          refine ⟨by simp,by simp; omega,by simp; omega,?_⟩
          simp only
          have hc:=UInt8.toNat_lt c
          have e:2 ^ (64 - 7*k)=128*2 ^ (64 - 7*(k+1)):=by
            rw [show 64 - 7*k=7+(64 - 7*(k+1)) by omega,Nat.pow_add]
          rw [e]; omega
        · rw [if_neg h3] at h; simp at h; exact absurd h h3
theorem getU_err:∀ (b:List UInt8) (k:Nat),(getU k b).2.2≠0→(getU k b).1=0∧(getU k b).2.1=0∧((getU k b).2.2=10∨(getU k b).2.2=11)
  | [],k,_=>by simp [getU]
  | c :: r, k, h => by
    unfold getU at h ⊢
    by_cases h1:(k=9∧1<c.toNat)∨(0<k∧c.toNat=0)
    · rw [if_pos h1]; simp
    · rw [if_neg h1] at h ⊢
      by_cases h2:c.toNat<128
      · rw [if_pos h2] at h; simp at h
      · rw [if_neg h2] at h ⊢
        simp only at h ⊢
        by_cases h3:(getU (k+1) r).2.2=0
        · rw [if_pos h3] at h; simp at h
        · rw [if_neg h3]
          exact ⟨rfl,rfl,(getU_err r (k+1) h3).2.2⟩
theorem getI_ok {b:List UInt8} (h:(getI b).2.2=0):1≤(getI b).2.1∧(getI b).2.1≤b.length∧(getI b).2.1≤10∧-9223372036854775808≤(getI b).1∧(getI b).1≤9223372036854775807:=by
 unfold getI at h ⊢
 simp only at h ⊢
 by_cases h1:(getU 0 b).2.2=0
 ·obtain ⟨a1,a2,a3,a4⟩:=getU_ok b 0 (by omega) h1
  rw [if_pos h1]
  exact ⟨a1,a2,a3,unzig_lo (by simpa using a4),unzig_hi (by simpa using a4)⟩
 ·rw [if_neg h1] at h; exact absurd h h1
theorem getI_err {b:List UInt8} (h:(getI b).2.2≠0):getI b=(0,0,(getI b).2.2):=by
 unfold getI at h ⊢
 simp only at h ⊢
 by_cases h1:(getU 0 b).2.2=0
 ·rw [if_pos h1] at h; exact absurd rfl h
 ·rw [if_neg h1]
theorem getI_any (b:List UInt8):(getI b).2.1≤b.length∧(getI b).2.1≤10∧-9223372036854775808≤(getI b).1∧(getI b).1≤9223372036854775807:=by
 by_cases h:(getI b).2.2=0
 ·exact ⟨(getI_ok h).2.1,(getI_ok h).2.2⟩
 ·rw [getI_err h]; simp
theorem lenD_ok {b:List UInt8} {least:Nat} (hl:0<least) (h:(lenD b least).2.2=0):(lenD b least).2.1+(lenD b least).1*least≤b.length∧1≤(lenD b least).2.1:=by
 unfold lenD at h ⊢
 simp only at h ⊢
 by_cases h1:(getI b).2.2≠0
 ·rw [if_pos h1] at h; exact absurd h h1
 ·rw [if_neg h1] at h ⊢
  have h1' : (getI b).2.2=0:=by omega
  obtain ⟨a1,a2,a3,a4,a5⟩:=getI_ok h1'
  by_cases h2:(getI b).1<0
  ·rw [if_pos h2] at h; simp at h
  ·rw [if_neg h2] at h ⊢
   by_cases h3:(b.length - (getI b).2.1) / least<(getI b).1.toNat
   ·rw [if_pos h3] at h; simp at h
   ·rw [if_neg h3]
    simp only
    have h4:(getI b).1.toNat≤(b.length - (getI b).2.1) / least:=by omega
    have h5:=(Nat.le_div_iff_mul_le hl).1 h4
    omega
theorem lenD_any {b:List UInt8} {least:Nat} (hl:0<least):(lenD b least).2.1+(lenD b least).1*least≤b.length:=by
 by_cases h:(lenD b least).2.2=0
 ·exact (lenD_ok hl h).1
 ·unfold lenD at h ⊢
  simp only at h ⊢
  by_cases h1:(getI b).2.2≠0
  ·rw [if_pos h1]; simp
  ·rw [if_neg h1] at h ⊢
   by_cases h2:(getI b).1<0
   ·rw [if_pos h2]; simp
   ·rw [if_neg h2] at h ⊢
    by_cases h3:(b.length - (getI b).2.1) / least<(getI b).1.toNat
    ·rw [if_pos h3]; simp
    ·rw [if_neg h3] at h; exact absurd rfl h
theorem getS_ok {b:List UInt8} (h:(getS b).2.2=0):(getS b).2.1≤b.length∧1≤(getS b).2.1∧(getS b).1.length≤b.length:=by
 unfold getS at h ⊢
 simp only at h ⊢
 by_cases h1:(lenD b 1).2.2≠0
 ·rw [if_pos h1] at h; exact absurd h h1
 ·rw [if_neg h1]
  obtain ⟨a,c⟩:=lenD_ok (by omega) (by omega:(lenD b 1).2.2=0)
  simp; omega
theorem getS_any (b:List UInt8):(getS b).2.1≤b.length∧(getS b).1.length≤b.length:=by
 by_cases h:(getS b).2.2=0
 ·exact ⟨(getS_ok h).1,(getS_ok h).2.2⟩
 ·unfold getS at h ⊢
  simp only at h ⊢
  by_cases h1:(lenD b 1).2.2≠0
  ·rw [if_pos h1]; simp
  ·rw [if_neg h1] at h; exact absurd rfl h
def finU (k z:Nat) (x:Nat×Nat×Nat):Nat×Nat×Nat:=if x.2.2=0 then (z+2 ^ (7*k)*x.1,k+x.2.1,0) else (0,0,x.2.2)
theorem finU_start (b:List UInt8):finU 0 0 (getU 0 b)=getU 0 b:=by
 unfold finU
 by_cases h:(getU 0 b).2.2=0
 ·rw [if_pos h]; simp [Prod.ext_iff,h]
 ·rw [if_neg h]
  obtain ⟨a1,a2,_⟩:=getU_err b 0 h
  simp [Prod.ext_iff,a1,a2]
theorem getU_bad {k:Nat} {c:UInt8} {r:List UInt8} (h:(k=9∧1<c.toNat)∨(0<k∧c.toNat=0)):getU k (c::r)=(0,0,11):=by unfold getU; rw [if_pos h]
theorem getU_last {k:Nat} {c:UInt8} {r:List UInt8} (h:¬ ((k=9∧1<c.toNat)∨(0<k∧c.toNat=0))) (h2:c.toNat<128):getU k (c::r)=(c.toNat,1,0):=by unfold getU; rw [if_neg h,if_pos h2]
theorem finU_step {k z:Nat} {c:UInt8} {r:List UInt8} (h:¬ ((k=9∧1<c.toNat)∨(0<k∧c.toNat=0))) (h2:¬ c.toNat<128) :
  finU k z (getU k (c::r))=finU (k+1) (z+(c.toNat % 128)*2 ^ (7*k)) (getU (k+1) r):=by
 have hc:=UInt8.toNat_lt c
 have e:c.toNat % 128=c.toNat - 128:=by omega
 rw [getU,if_neg h,if_neg h2]
 simp only [finU]
 by_cases h3:(getU (k+1) r).2.2=0
 ·rw [if_pos h3,if_pos h3]
  simp only [if_pos]
  rw [e,show 7*(k+1)=7*k+7 by omega,Nat.pow_add]
  have:2 ^ (7*k)*(c.toNat - 128+128*(getU (k+1) r).1)=(c.toNat - 128)*2 ^ (7*k)+2 ^ (7*k)*2 ^ 7*(getU (k+1) r).1:=by
   rw [Nat.mul_add,Nat.mul_comm _ (c.toNat - 128),Nat.mul_assoc (2 ^ (7*k)) (2 ^ 7)]
  rw [this]
  ext <;> simp <;> omega
 ·rw [if_neg h3,if_neg h3]
  simp [h3]
theorem flat_takeW {α:Type} (one:α→List UInt8) {l:List α} {i:Nat} (h:i<l.length):(l.take (i+1)).flatMap one=(l.take i).flatMap one++one l[i]:=by
 rw [List.take_succ_eq_append_getElem h,List.flatMap_append]; simp
theorem sum_take {l:List (List UInt8)} {i:Nat} (h:i<l.length):((l.take (i+1)).map List.length).sum=((l.take i).map List.length).sum+l[i].length:=by
 rw [List.take_succ_eq_append_getElem h,List.map_append,List.sum_append]; simp
theorem sum_le {l:List (List UInt8)} {i:Nat} (h:i<l.length):((l.take i).map List.length).sum+l[i].length≤(l.map List.length).sum:=by
 rw [← sum_take h]
 conv=>rhs; rw [← List.take_append_drop (i+1) l,List.map_append,List.sum_append]
 omega
theorem drop_cons {b:List UInt8} {k:Nat} (h:k<b.length):b.drop k=b[k]::b.drop (k+1):=List.drop_eq_getElem_cons h
theorem getI_bad {b:List UInt8} {k z e:Nat} (hi:finU k z (getU k (b.drop k))=getU 0 b) (h:getU k (b.drop k)=(0,0,e)) (he:e≠0):getI b=(0,0,e):=by
 unfold getI
 rw [← hi,h]
 simp [finU,he]
theorem getI_good {b:List UInt8} {k z c:Nat} (hi:finU k z (getU k (b.drop k))=getU 0 b) (h:getU k (b.drop k)=(c,1,0)):getI b=(unzig (z+c*2 ^ (7*k)),k+1,0):=by
 unfold getI
 rw [← hi,h]
 simp [finU,Nat.mul_comm]
theorem dig_lt {k z c:Nat} (hk:k≤9) (hz:z<2 ^ (7*k)) (h9:k=9→c≤1):z+(c % 128)*2 ^ (7*k)<2 ^ 64:=by
 by_cases h:k=9
 ·subst h
  have:=h9 rfl
  have h2:c % 128≤1:=by omega
  have:(c % 128)*2 ^ (7*9)≤1*2 ^ (7*9):=Nat.mul_le_mul_right _ h2
  omega
 ·have h1:2 ^ (7*k)≤2 ^ 56:=Nat.pow_le_pow_right (by omega) (by omega)
  have h2:c % 128≤127:=by omega
  have h3:(c % 128)*2 ^ (7*k)≤127*2 ^ (7*k):=Nat.mul_le_mul_right _ h2
  omega
theorem dig_lt2 {k z c:Nat} (hz:z<2 ^ (7*k)):z+(c % 128)*2 ^ (7*k)<2 ^ (7*(k+1)):=by
 have h2:c % 128≤127:=by omega
 have h3:(c % 128)*2 ^ (7*k)≤127*2 ^ (7*k):=Nat.mul_le_mul_right _ h2
 rw [show 7*(k+1)=7*k+7 by omega,Nat.pow_add]
 omega
theorem shl7 {k x:Nat} (hk:k≤9) (h:x*2 ^ (7*k)<2 ^ 64):IntKind.u64.wrap ((x:Int)*2 ^ (min (((7*k:Nat):Int)).toNat IntKind.u64.bits))=((x*2 ^ (7*k):Nat):Int):=by
 have e:min (((7*k:Nat):Int)).toNat IntKind.u64.bits=7*k:=by
  rw [Int.toNat_natCast]; show min (7*k) 64=_; omega
 rw [e,show ((x:Int)*2 ^ (7*k))=((x*2 ^ (7*k):Nat):Int) by simp [Int.natCast_mul,Int.natCast_pow],zfb (by omega) (by omega)]
theorem getU_skip:∀ (k s:Nat) (b:List UInt8) (e:Nat),(∀ j,j<k→∃ c,b[j]? = some c∧128≤c.toNat)→s+k≤9→(getU (s+k) (b.drop k)).2.2=e→e≠0→getU s b=(0,0,e)
  | 0, s, b, e, _, _, h, he => by
    rw [List.drop_zero,Nat.add_zero] at h
    obtain ⟨a1,a2,_⟩:=getU_err b s (by rw [h]; exact he)
    simp [Prod.ext_iff,a1,a2,h]
  | k + 1, s, b, e, hb, hs, h, he => by
    obtain ⟨c,hc,h128⟩:=hb 0 (by omega)
    cases b with
    | nil=>simp at hc
    | cons c' r =>
      simp at hc; subst hc
      have ih:=getU_skip k (s+1) r e (fun j hj=>by obtain ⟨c,h1,h2⟩:=hb (j+1) (by omega); exact ⟨c,by simpa using h1,h2⟩) (by omega)
        (by rw [show s+1+k=s+(k+1) by omega]; simpa using h) he
      rw [getU,if_neg (by omega),if_neg (by omega)]
      simp [ih,he]
def More (b:List UInt8) (k:Nat):Prop:=∀ j,j<k→∃ c,b[j]? = some c∧128≤c.toNat
theorem More.zero (b:List UInt8):More b 0:=fun j h=>absurd h (by omega)
theorem More.succ {b:List UInt8} {k:Nat} (h:More b k) (hk:k<b.length) (hc:128≤b[k].toNat):More b (k+1):=by
 intro j hj
 by_cases e:j=k
 ·subst e; exact ⟨b[j],List.getElem?_eq_getElem hk,hc⟩
 ·exact h j (by omega)
theorem More.skip {b:List UInt8} {k e:Nat} (h:More b k) (hk:k≤9) (he:getU k (b.drop k)=(0,0,e)) (h0:e≠0):getI b=(0,0,e):=by
 have:=getU_skip k 0 b e h (by omega) (by rw [Nat.zero_add,he]) h0
 unfold getI
 rw [this]; simp [h0]
theorem More.stop {b:List UInt8} (h:More b b.length) (hl:b.length≤9):getI b=(0,0,10):=
 More.skip h hl (by rw [List.drop_eq_nil_of_le (by omega)]; rfl) (by decide)
end Go.Abs
namespace Go.Abs
variable {α : Type} {one : List UInt8 → α × Nat × Nat} {b : List UInt8} {m at_ i n : Nat} {o : List α}
end Go.Abs
namespace Go.Abs
theorem getN_len {α:Type} {one:List UInt8→α×Nat×Nat}:∀ (n:Nat) (b:List UInt8),(getN one n b).1.length≤n
  | 0,b=>by simp [getN]
  | n + 1, b => by
    have ih:=getN_len (one:=one) n (b.drop (one b).2.1)
    unfold getN
    by_cases h1:(one b).2.2=0 <;> by_cases h2:(getN one n (b.drop (one b).2.1)).2.2=0 <;> simp [h1,h2,ih]
theorem getN_used {α:Type} {one:List UInt8→α×Nat×Nat} (ho:∀ b,(one b).2.1≤b.length):∀ (n:Nat) (b:List UInt8),(getN one n b).2.1≤b.length
  | 0,b=>by simp [getN]
  | n + 1, b => by
    have ih:=getN_used ho n (b.drop (one b).2.1)
    have h:=ho b
    rw [List.length_drop] at ih
    unfold getN
    by_cases h1:(one b).2.2=0 <;> by_cases h2:(getN one n (b.drop (one b).2.1)).2.2=0 <;> simp [h1,h2] <;> omega
theorem getL_any {α:Type} {one:List UInt8→α×Nat×Nat} {m:Nat} (hm:0<m) (ho:∀ b,(one b).2.1≤b.length) (b:List UInt8):(getL one m b).1.length≤b.length∧(getL one m b).2.1≤b.length:=by
 have h:=lenD_any (b:=b) hm
 have h3:=getN_len (one:=one) (lenD b m).1 (b.drop (lenD b m).2.1)
 have h4:=getN_used ho (lenD b m).1 (b.drop (lenD b m).2.1)
 have h5:(lenD b m).1≤(lenD b m).1*m:=Nat.le_mul_of_pos_right _ hm
 rw [List.length_drop] at h4
 unfold getL
 by_cases h1:(lenD b m).2.2=0 <;> by_cases h2:(getN one (lenD b m).1 (b.drop (lenD b m).2.1)).2.2=0 <;> simp [h1,h2] <;> omega
theorem getLI_any (b:List UInt8):(getL getI 1 b).1.length≤b.length∧(getL getI 1 b).2.1≤b.length:=getL_any (by decide) (fun b=>(getI_any b).1) b
theorem getLS_any (b:List UInt8):(getL getS 1 b).1.length≤b.length∧(getL getS 1 b).2.1≤b.length:=getL_any (by decide) (fun b=>(getS_any b).1) b
end Go.Abs
namespace Go.Abs
theorem getU_enc:∀ (m z k:Nat) (t:List UInt8),z≤m→k≤9→z<2 ^ (64 - 7*k)→(0<k→z≠0)→getU k (encU z++t)=(z,(encU z).length,0):=by
  intro m
  induction m with
  | zero =>
    intro z k t hm hk hz h0
    have:z=0:=by omega
    subst this
    rw [encU_lt (by decide),List.singleton_append,getU_last _ (by decide)]
    · rfl
    · rintro (⟨_,h⟩ | ⟨h,_⟩)
      · revert h; decide
      · exact h0 h rfl
  | succ m ih =>
    intro z k t hm hk hz h0
    by_cases h:z<128
    · have e:(UInt8.ofNat z).toNat=z:=toNat_ofNat8 (by omega)
      rw [encU_lt h,List.singleton_append,getU_last _ (by omega),e]
      · rfl
      · rw [e]
        rintro (⟨h9,h1⟩ | ⟨h1,h2⟩)
        · subst h9; simp at hz; omega
        · exact h0 h1 h2
    · have h9:k≠9:=by rintro rfl; simp at hz; omega
      have e:(UInt8.ofNat (z % 128+128)).toNat=z % 128+128:=toNat_ofNat8 (by omega)
      have hz2:z / 128<2 ^ (64 - 7*(k+1)):=by
        rw [Nat.div_lt_iff_lt_mul (by omega)]
        rw [show 64 - 7*k=(64 - 7*(k+1))+7 by omega,Nat.pow_add] at hz
        omega
      have:=ih (z / 128) (k+1) t (by omega) (by omega) hz2 (by omega)
      rw [encU_ge h,List.cons_append,getU,if_neg (by rw [e]; omega),if_neg (by rw [e]; omega),this,e]
      simp only [if_pos,List.length_cons]
      ext <;> simp; omega
theorem getI_enc {n:Int} (h1 : -9223372036854775808≤n) (h2:n≤9223372036854775807) (t:List UInt8):getI (encI n++t)=(n,(encI n).length,0):=by
 have h:=getU_enc (zig n) (zig n) 0 t (Nat.le_refl _) (by omega) (by have:=zig_lt h1 h2; omega) (by omega)
 unfold getI encI
 rw [h]
 simp [unzig_zig]
theorem lenD_enc {n least:Nat} (hn:n≤9223372036854775807) (hl:0<least) {t:List UInt8} (ht:n*least≤t.length):lenD (encI n++t) least=(n,(encI n).length,0):=by
 have h:=getI_enc (n:=(n:Int)) (by omega) (by omega) t
 have hd:¬ (t.length / least<n):=by
  rw [Nat.div_lt_iff_lt_mul hl]; omega
 unfold lenD
 simp only [h]
 rw [if_neg (by omega),if_neg (by omega),if_neg (by rw [List.length_append,Nat.add_sub_cancel_left,Int.toNat_natCast]; exact hd)]
 simp
theorem getS_enc {s:List UInt8} (hs:s.length≤9223372036854775807) (t:List UInt8):getS (encS s++t)=(s,(encS s).length,0):=by
 have h:=lenD_enc (n:=s.length) (least:=1) hs (by omega) (t:=s++t) (by rw [List.length_append]; omega)
 unfold getS encS
 rw [List.append_assoc,h]
 simp
theorem getN_enc {α:Type} {one:List UInt8→α×Nat×Nat} {enc:α→List UInt8}:∀ (l:List α) (t:List UInt8),(∀ x∈l,∀ t,one (enc x++t)=(x,(enc x).length,0))→
    getN one l.length (l.flatMap enc++t)=(l,(l.flatMap enc).length,0)
  | [],t,_=>by simp [getN]
  | x :: l, t, h => by
    have ih:=getN_enc l t (fun y hy=>h y (List.mem_cons_of_mem _ hy))
    have hx:=h x (List.mem_cons_self ..) (l.flatMap enc++t)
    rw [List.flatMap_cons,List.append_assoc,List.length_cons,getN]
    simp only [hx]
    simp [ih]
theorem flat_ge {α:Type} {enc:α→List UInt8} {m:Nat}:∀ (l:List α),(∀ x∈l,m≤(enc x).length)→l.length*m≤(l.flatMap enc).length
  | [],_=>by simp
  | x :: l, h => by
    have ih:=flat_ge l (fun y hy=>h y (List.mem_cons_of_mem _ hy))
    have hx:=h x (List.mem_cons_self ..)
    rw [List.flatMap_cons,List.length_append,List.length_cons,Nat.succ_mul]
    omega
theorem getL_enc {α:Type} {one:List UInt8→α×Nat×Nat} {enc:α→List UInt8} {m:Nat} (hm:0<m) (l:List α) (t:List UInt8) (hl:l.length≤9223372036854775807) (hlen:∀ x∈l,m≤(enc x).length)
  (h:∀ x∈l,∀ t,one (enc x++t)=(x,(enc x).length,0)):getL one m (encL enc l++t)=(l,(encL enc l).length,0):=by
 have h1:=lenD_enc (n:=l.length) (least:=m) hl hm (t:=l.flatMap enc++t) (by have:=flat_ge l hlen; rw [List.length_append]; omega)
 have h2:=getN_enc l t h
 unfold getL encL
 rw [List.append_assoc,h1]
 simp [h2]
theorem encS_ge (s:List UInt8):1≤(encS s).length:=by have:=encU_pos (zig s.length); unfold encS encI; rw [List.length_append]; omega
theorem getLI_enc (l:List Int) (t:List UInt8) (hl:l.length≤9223372036854775807) (hn:∀ n∈l,-9223372036854775808≤n∧n≤9223372036854775807):getL getI 1 (encL encI l++t)=(l,(encL encI l).length,0):=
 getL_enc (by decide) l t hl (fun x _=>encU_pos _) (fun x hx t=>getI_enc (hn x hx).1 (hn x hx).2 t)
theorem getLS_enc (l:List (List UInt8)) (t:List UInt8) (hl:l.length≤9223372036854775807) (hn:∀ s∈l,s.length≤9223372036854775807):getL getS 1 (encL encS l++t)=(l,(encL encS l).length,0):=
 getL_enc (by decide) l t hl (fun x _=>encS_ge _) (fun x hx t=>getS_enc (hn x hx) t)
end Go.Abs
namespace Go.Proofs.YtgjcniomhahgkaaGreatDoor
open Go.Abs
theorem ze4:∀ (k n Z:Nat) (out:List UInt8),Z<2 ^ (7*(k+1))→k<n→out.length+k<1073741824→
    ∃ (z' : Nat) (pre:List UInt8),iter z6E n ((Z:Int),out)=some (.go ((z' : Int),out++pre))∧z'<128∧encU Z=pre++[UInt8.ofNat z']∧pre.length≤k
  | k,0,Z,out,hZ,hn,hl=>by omega
  | k, n + 1, Z, out, hZ, hn, hl => by
    by_cases h:Z<128
    · refine ⟨Z,[],?_,h,by rw [encU_lt h]; rfl,by simp⟩
      have hs:z6E ((Z:Int),out)=some (.stop (.go ((Z:Int),out))):=by
        unfold z6E
        simp only [show decide ((127:Int)<(Z:Int))=false by simp; omega,cond_false]
      rw [z3q hs]; simp
    · cases k with
      | zero=>simp at hZ; omega
      | succ k =>
        have hs:z6E ((Z:Int),out)=some (.go (((Z / 128:Nat):Int),out++[UInt8.ofNat (Z % 128+128)])):=by
          unfold z6E
          simp only [show decide ((127:Int)<(Z:Int))=true by simp; omega,cond_true]
          have hb:bitOr .u8 (IntKind.u8.wrap (Z:Int)) 128=((Z % 128+128:Nat):Int):=by
            rw [show IntKind.u8.wrap (Z:Int)=((Z % 256:Nat):Int) by rw [zh9]; rfl]; exact bitOr_high
          rw [hb,zW (by omega),zW (by simp; omega),shr7]
          simp only [Int.toNat_natCast,Nat.toUInt8]
        have hZ2:Z / 128<2 ^ (7*(k+1)):=by
          rw [Nat.div_lt_iff_lt_mul (by omega)]
          rw [show 7*(k+1+1)=7*(k+1)+7 by omega,Nat.pow_add] at hZ
          simpa using hZ
        obtain ⟨z',pre,h1,h2,h3,h4⟩:=ze4 k n (Z / 128) (out++[UInt8.ofNat (Z % 128+128)]) hZ2 (by omega) (by simp; omega)
        exact ⟨z',UInt8.ofNat (Z % 128+128)::pre,by rw [z6K hs,h1]; simp,h2,by rw [encU_ge h,h3]; simp,by simp; omega⟩
theorem zci {n:Nat} {v:Int} (hn:10<n) (h1 : -9223372036854775808≤v) (h2:v≤9223372036854775807):z7W n v=some (encI v):=by
 unfold z7W
 rw [xor_zig h1 h2]
 obtain ⟨z',pre,e1,e2,e3,e4⟩:=ze4 9 n (zig v) [] (by have:=zig_lt h1 h2; exact Nat.lt_of_lt_of_le this (by decide)) (by omega) (by simp)
 rw [e1]
 simp only [z12,List.nil_append]
 have hw:(IntKind.u8.wrap (z' : Int)).toNat.toUInt8=UInt8.ofNat z':=by
  rw [zh9,show ((z' : Int) % 256)=(z' : Int) by omega]; simp
 rw [zW (by simp; omega),hw]
 unfold encI
 rw [e3]
theorem zfl {n:Nat} {s:List UInt8} (hn:10<n) (h:s.length<1073741824):z7V n s=some (encS s):=by
 unfold z7V
 have:=(encI_len (n:=(s.length:Int)) (by omega) (by omega)).2
 rw [zci hn (by omega) (by omega)]
 simp only [obind,Option.bind_some]
 rw [zW (by omega)]; rfl
theorem w_suc {k N:Nat} (h:k≤N) (hN:N≤1073741824):IntKind.i64.wrap ((k:Int)+1)=((k+1:Nat):Int):=by rw [w64 (by omega) (by omega)]; try omega
theorem z6q {α:Type} {one:α→List UInt8} (l:List α) {i:Nat} (h:i<l.length):((l.take i).flatMap one).length+(one l[i]).length≤(l.flatMap one).length:=by
 have h1:l.flatMap one=(l.take i).flatMap one++(one l[i]++(l.drop (i+1)).flatMap one):=by
  rw [← List.append_assoc,← flat_takeW one h,← List.flatMap_append,List.take_append_drop]
 rw [h1]; simp
theorem z7p {α T R:Type} {step:T→Option (Lp T R)} {l:List α} (mk:Nat→T) (r:R)
    (hgo:∀ (i:Nat) (h:i<l.length),step (mk i)=some (.go (mk (i+1)))) (hend:step (mk l.length)=some (.stop r)) :
    ∀ (n i:Nat),i≤l.length→l.length - i<n→iter step n (mk i)=some r
  | 0,i,_,h=>by omega
  | n + 1, i, hle, h => by
    by_cases e:i=l.length
    · subst e; exact z3q hend
    · rw [z6K (hgo i (by omega))]
      exact z7p mk r hgo hend n (i+1) (by omega) (by omega)
theorem ze5 {n:Nat} {l:List Int} (hn:10<n) (hln:l.length<n) (h1:∀ v∈l,-9223372036854775808≤v∧v≤9223372036854775807) (hl:(l.flatMap encI).length<1073741800) (hl2:l.length<1073741800):z84 n l=some (encL encI l):=by
 have hq:=(encI_len (n:=(l.length:Int)) (by omega) (by omega)).2
 have h:=z7p (l:=l) (step:=z4f n l) (fun i=>(encI l.length++(l.take i).flatMap encI,(i:Int))) (.go (encL encI l)) (fun i hi=>by
  unfold z4f
  simp only [show decide ((i:Int)<(l.length:Int))=true by simp; omega,cond_true]
  have:=z6q (one:=encI) l hi
  rw [z1J hi,zci hn (h1 _ (List.getElem_mem hi)).1 (h1 _ (List.getElem_mem hi)).2]
  simp only [obind,Option.bind_some]
  rw [zW (by simp only [List.length_append]; omega),w_suc (N:=l.length) (by omega) (by omega),flat_takeW encI hi]
  simp) (by unfold z4f; simp [encL]) n 0 (by omega) (by omega)
 simp only [List.take_zero,List.flatMap_nil,List.append_nil] at h
 unfold z84 z5S
 rw [zci hn (by omega) (by omega)]
 simp only [obind,Option.bind_some]
 have h' : iter (z4f n l) n (encI l.length,0)=some (.go (encL encI l)):=h
 rw [h']; rfl
theorem zd1 {n:Nat} {l:List (List UInt8)} (hn:10<n) (hln:l.length<n) (h1:∀ v∈l,v.length<1073741824) (hl:(l.flatMap encS).length<1073741800) (hl2:l.length<1073741800):z6T n l=some (encL encS l):=by
 have hq:=(encI_len (n:=(l.length:Int)) (by omega) (by omega)).2
 have h:=z7p (l:=l) (step:=z3K n l) (fun i=>(encI l.length++(l.take i).flatMap encS,(i:Int))) (.go (encL encS l)) (fun i hi=>by
  unfold z3K
  simp only [show decide ((i:Int)<(l.length:Int))=true by simp; omega,cond_true]
  have:=z6q (one:=encS) l hi
  rw [z1J hi,zfl hn (h1 _ (List.getElem_mem hi))]
  simp only [obind,Option.bind_some]
  rw [zW (by simp only [List.length_append]; omega),w_suc (N:=l.length) (by omega) (by omega),flat_takeW encS hi]
  simp) (by unfold z3K; simp [encL]) n 0 (by omega) (by omega)
 simp only [List.take_zero,List.flatMap_nil,List.append_nil] at h
 unfold z6T z4G
 rw [zci hn (by omega) (by omega)]
 simp only [obind,Option.bind_some]
 have h' : iter (z3K n l) n (encI l.length,0)=some (.go (encL encS l)):=h
 rw [h']; rfl
end Go.Proofs.YtgjcniomhahgkaaGreatDoor
namespace Go.Proofs.YtgjcniomhahgkaaGreatDoor
open Go.Abs
def triI (x:Int×Nat×Nat):Int×Int×Int:=(x.1,(x.2.1:Int),(x.2.2:Int))
def gcont:Int×Int→Option (Int×Int×Int):=fun (z_1,used_2)=>
 cond (decide (used_2=0))
  (some (0,0,10))
  (some ((zdn .i64 (IntKind.i64.wrap (Int.fdiv z_1 (2 ^ (min ((1:Int).toNat) IntKind.u64.bits)))) (IntKind.i64.wrap (0 - (IntKind.i64.wrap (zaw .u64 z_1 1))))),used_2,0))
theorem zi8 {z k:Nat} (hz:z<2 ^ 64):gcont ((z:Int),((k+1:Nat):Int))=some (unzig z,((k+1:Nat):Int),0):=by
 unfold gcont
 simp only [show decide (((k+1:Nat):Int)=0)=false by simp; omega,cond_false]
 rw [shr1,bitAnd_one hz,w64 (by omega) (by omega),w64 (x:=((z % 2:Nat):Int)) (by omega) (by omega),unzig_xor hz]
theorem zdV (b:List UInt8) (hb:b.length<1073741824):∀ (n k z:Nat),b.length - k<n→k≤b.length→k≤9→z<2 ^ (7*k)→finU k z (getU k (b.drop k))=getU 0 b→
    bindJ (iter (z4X b) n ((z:Int),(k:Int))) gcont=some (triI (getI b))
  | 0,k,z,h,_,_,_,_=>by omega
  | n + 1, k, z, h, hk, h9, hz, hi => by
    by_cases hlt:k<b.length
    · have hd:=drop_cons hlt
      have hc:=UInt8.toNat_lt b[k]
      have hstep:z4X b ((z:Int),(k:Int))=cond (decide ((k=9∧1<b[k].toNat)∨(0<k∧b[k].toNat=0))) (some (.stop (.stop (0,0,11)))) (cond (decide (b[k].toNat<128))
          (some (.stop (.go ((bitOr .u64 (z:Int) (IntKind.u64.wrap ((IntKind.u64.wrap (zaw .u8 ((b[k]).toNat:Int) 127))*2 ^ (min (((7*k:Nat):Int)).toNat IntKind.u64.bits)))),((k+1:Nat):Int)))))
          (some (.go ((bitOr .u64 (z:Int) (IntKind.u64.wrap ((IntKind.u64.wrap (zaw .u8 ((b[k]).toNat:Int) 127))*2 ^ (min (((7*k:Nat):Int)).toNat IntKind.u64.bits)))),((k+1:Nat):Int))))):=by
        unfold z4X
        simp only [show decide ((k:Int)<(b.length:Int))=true by simp; omega,cond_true]
        rw [z1J hlt,show IntKind.i64.wrap (7*(k:Int))=((7*k:Nat):Int) by rw [w64 (by omega) (by omega)]; omega,w_suc (N:=b.length) (by omega) (by omega),zW (by omega)]
        have e1:decide ((b[k].toNat:Int)<128)=decide (b[k].toNat<128):=by congr 1; exact propext (by omega)
        rw [e1]
        by_cases h1:k=9∧1<b[k].toNat
        · rw [decide_eq_true (Or.inl h1:(k=9∧1<b[k].toNat)∨(0<k∧b[k].toNat=0))]
          simp only [show (decide ((k:Int)=9) && decide (1<(b[k].toNat:Int)))=true by simp; omega,cond_true,z12]
        · simp only [show (decide ((k:Int)=9) && decide (1<(b[k].toNat:Int)))=false by simp; omega,cond_false,z12]
          rw [show (decide (0<(k:Int)) && decide ((b[k].toNat:Int)=0))=decide ((k=9∧1<b[k].toNat)∨(0<k∧b[k].toNat=0)) by
            by_cases h2:0<k∧b[k].toNat=0
            · rw [decide_eq_true (Or.inr h2)]; simp; omega
            · rw [decide_eq_false (by omega:¬ ((k=9∧1<b[k].toNat)∨(0<k∧b[k].toNat=0)))]; simp; omega]
      by_cases hbad:(k=9∧1<b[k].toNat)∨(0<k∧b[k].toNat=0)
      · rw [z3q (by rw [hstep,decide_eq_true hbad,cond_true])]
        rw [getI_bad hi (by rw [hd]; exact getU_bad hbad) (by omega)]; rfl
      · have hx:bitOr .u64 (z:Int) (IntKind.u64.wrap ((IntKind.u64.wrap (zaw .u8 ((b[k]).toNat:Int) 127))*2 ^ (min (((7*k:Nat):Int)).toNat IntKind.u64.bits)))=((z+(b[k].toNat % 128)*2 ^ (7*k):Nat):Int):=by
          have hdl:=dig_lt (c:=b[k].toNat) h9 hz (fun h=>by omega)
          rw [bitAnd_low hc,zfb (x:=((b[k].toNat % 128:Nat):Int)) (by omega) (by omega),shl7 h9 (by omega),bitOr_shift hz hdl]
        have hdl:=dig_lt (c:=b[k].toNat) h9 hz (fun h=>by omega)
        by_cases h128:b[k].toNat<128
        · rw [z3q (by rw [hstep,decide_eq_false hbad,cond_false,decide_eq_true h128,cond_true])]
          simp only [z12]
          rw [hx,zi8 hdl,getI_good hi (by rw [hd]; exact getU_last hbad h128),Nat.mod_eq_of_lt h128]; rfl
        · rw [z6K (by rw [hstep,decide_eq_false hbad,cond_false,decide_eq_false h128,cond_false]),hx]
          have h9' : k≠9:=fun h=>hbad (.inl ⟨h,by omega⟩)
          refine zdV b hb n (k+1) _ (by omega) (by omega) (by omega) (dig_lt2 hz) ?_
          rw [← hi,hd,finU_step hbad h128]
    · have hs:z4X b ((z:Int),(k:Int))=some (.stop (.go ((z:Int),0))):=by
        unfold z4X
        simp only [show decide ((k:Int)<(b.length:Int))=false by simp; omega,cond_false]
      rw [z3q hs]
      have:b.drop k=[]:=List.drop_eq_nil_of_le (by omega)
      rw [getI_bad hi (by rw [this]; rfl) (by omega)]; rfl
theorem zgK {n:Nat} {b:List UInt8} (hb:b.length<1073741824) (hn:b.length<n):z7k n b=some (triI (getI b)):=by
 have:=zdV b hb n 0 0 (by omega) (by omega) (by omega) (by simp) (by simpa using finU_start b)
 exact this
theorem zdU {n:Nat} {b:List UInt8} (hb:b.length<1073741824) (hn:b.length<n):z6f n b 1=some (((lenD b 1).1:Int),((lenD b 1).2.1:Int),((lenD b 1).2.2:Int)):=by
 unfold z6f
 rw [zgK hb hn]
 simp only [obind,Option.bind_some,triI]
 have ha:=getI_any b
 unfold lenD
 by_cases h0:(getI b).2.2=0
 ·simp only [h0,ne_eq,Int.natCast_zero,not_true_eq_false,decide_false,cond_false,if_false]
  by_cases h1:(getI b).1<0
  ·simp [h1]
  ·simp only [h1,decide_false,cond_false,if_false]
   rw [zW (by omega),w64 (x:=(b.length:Int) - ((getI b).2.1:Int)) (by omega) (by omega),Int.tdiv_one,w64 (by omega) (by omega),Nat.div_one]
   by_cases h2:b.length - (getI b).2.1<(getI b).1.toNat
   ·rw [if_pos h2,show decide ((b.length:Int) - ((getI b).2.1:Int)<(getI b).1)=true by simp; omega]; rfl
   ·rw [if_neg h2,show decide ((b.length:Int) - ((getI b).2.1:Int)<(getI b).1)=false by simp; omega]
    simp; omega
 ·simp [h0]
theorem zfB {n:Nat} {b:List UInt8} (hb:b.length<1073741824) (hn:b.length<n):z6o n b=some ((getS b).1,((getS b).2.1:Int),((getS b).2.2:Int)):=by
 unfold z6o
 rw [zdU hb hn]
 simp only [obind,Option.bind_some]
 have ha:=lenD_any (b:=b) (least:=1) (by omega)
 unfold getS
 by_cases h0:(lenD b 1).2.2=0
 ·simp only [h0,ne_eq,Int.natCast_zero,not_true_eq_false,decide_false,cond_false,if_false]
  rw [w64 (by omega) (by omega),zW (by omega)]
  rw [show (((lenD b 1).2.1:Int)+((lenD b 1).1:Int)).toNat=(lenD b 1).2.1+(lenD b 1).1 by omega,Int.toNat_natCast,List.drop_take]
  simp
 ·simp [h0]
end Go.Proofs.YtgjcniomhahgkaaGreatDoor
namespace Go.Proofs.YtgjcniomhahgkaaGreatDoor
open Go.Abs
theorem zbE {α:Type} {one:List UInt8→α×Nat×Nat} {b:List UInt8} {N:Nat} {step:Int×List α×Int→Option (Lp (Int×List α×Int) (Lp (Int×List α) (List α×Int×Int)))}
    (hstep:∀ (A i:Nat) (out:List α),i<N→A≤b.length→out.length≤N→step ((A:Int),out,(i:Int))=if (one (b.drop A)).2.2≠0 then some (.stop (.stop ([],0,((one (b.drop A)).2.2:Int)))) else some (.go (((A+(one (b.drop A)).2.1:Nat):Int),out++[(one (b.drop A)).1],((i+1:Nat):Int))))
    (hend:∀ (A:Nat) (out:List α),step ((A:Int),out,(N:Int))=some (.stop (.go ((A:Int),out)))) (hle:∀ b',(one b').2.1≤b'.length) :
    ∀ (j n i A : Nat) (out : List α), i + j = N → A ≤ b.length → out.length = i → j < n →
      iter step n ((A:Int),out,(i:Int))=some (if (getN one j (b.drop A)).2.2≠0 then .stop ([],0,((getN one j (b.drop A)).2.2:Int)) else .go (((A+(getN one j (b.drop A)).2.1:Nat):Int),out++(getN one j (b.drop A)).1))
  | j,0,i,A,out,_,_,_,h=>by omega
  | 0, n + 1, i, A, out, hi, hA, ho, h => by
    obtain rfl:i=N:=by omega
    rw [z3q (hend A out)]
    simp [getN]
  | j + 1, n + 1, i, A, out, hi, hA, ho, h => by
    have hs:=hstep A i out (by omega) hA (by omega)
    by_cases he:(one (b.drop A)).2.2=0
    · rw [if_neg (by simpa using he)] at hs
      have hu:=hle (b.drop A)
      rw [List.length_drop] at hu
      rw [z6K hs,zbE hstep hend hle j n (i+1) (A+(one (b.drop A)).2.1) _ (by omega) (Nat.le_trans (Nat.add_le_add_left hu A) (by omega)) (by simp [ho]) (by omega)]
      simp only [getN,he,ne_eq,not_true_eq_false,if_false]
      rw [List.drop_drop]
      generalize getN one j (b.drop (A+(one (b.drop A)).2.1))=y
      by_cases h2:y.2.2=0
      · simp [h2,Int.add_assoc]
      · simp [h2]
    · rw [if_pos he] at hs
      rw [z3q hs]
      simp [getN,he]
theorem zdT {n:Nat} {b:List UInt8} (hb:b.length<1073741824) (hn:b.length<n):z6e n b=some ((getL getI 1 b).1,((getL getI 1 b).2.1:Int),((getL getI 1 b).2.2:Int)):=by
 unfold z6e z6g
 rw [zdU hb hn]
 simp only [obind,Option.bind_some]
 have ha:=lenD_any (b:=b) (least:=1) (by omega)
 unfold getL
 by_cases h0:(lenD b 1).2.2=0
 ·simp only [h0,ne_eq,Int.natCast_zero,not_true_eq_false,decide_false,cond_false,if_false]
  have h:=zbE (one:=getI) (b:=b) (N:=(lenD b 1).1) (step:=z4q n b (((lenD b 1).1:Int),((lenD b 1).2.1:Int),0)) (fun A i out hi hA ho=>by
   unfold z4q
   simp only [show decide ((i:Int)<((lenD b 1).1:Int))=true by simp; omega,cond_true,Int.toNat_natCast]
   rw [zW (by omega),zgK (by simp; omega) (by simp; omega)]
   simp only [obind,Option.bind_some,triI]
   have hu:=(getI_any (b.drop A)).1
   rw [List.length_drop] at hu
   rw [zW (by simp; omega),w_suc (N:=b.length) (by omega) (by omega),w64 (by omega) (by omega)]
   by_cases he:(getI (b.drop A)).2.2=0
   ·simp [he]
   ·simp [he]) (fun A out=>by unfold z4q; simp) (fun b'=>(getI_any b').1) (lenD b 1).1 n 0 (lenD b 1).2.1 [] (by omega) (by omega) rfl (by omega)
  have h' : iter (z4q n b (((lenD b 1).1:Int),((lenD b 1).2.1:Int),0)) n (((lenD b 1).2.1:Int),[],0)=_:=h
  rw [h']
  by_cases h2:(getN getI (lenD b 1).1 (b.drop (lenD b 1).2.1)).2.2=0
  ·simp [h2]
  ·simp [h2]
 ·simp [h0]
theorem zcS {n:Nat} {b:List UInt8} (hb:b.length<1073741824) (hn:b.length<n):z5k n b=some ((getL getS 1 b).1,((getL getS 1 b).2.1:Int),((getL getS 1 b).2.2:Int)):=by
 unfold z5k z4Y
 rw [zdU hb hn]
 simp only [obind,Option.bind_some]
 have ha:=lenD_any (b:=b) (least:=1) (by omega)
 unfold getL
 by_cases h0:(lenD b 1).2.2=0
 ·simp only [h0,ne_eq,Int.natCast_zero,not_true_eq_false,decide_false,cond_false,if_false]
  have h:=zbE (one:=getS) (b:=b) (N:=(lenD b 1).1) (step:=z3Y n b (((lenD b 1).1:Int),((lenD b 1).2.1:Int),0)) (fun A i out hi hA ho=>by
   unfold z3Y
   simp only [show decide ((i:Int)<((lenD b 1).1:Int))=true by simp; omega,cond_true,Int.toNat_natCast]
   rw [zW (by omega),zfB (by simp; omega) (by simp; omega)]
   simp only [obind,Option.bind_some]
   have hu:=(getS_any (b.drop A)).1
   rw [List.length_drop] at hu
   rw [zW (by simp; omega),w_suc (N:=b.length) (by omega) (by omega),w64 (by omega) (by omega)]
   by_cases he:(getS (b.drop A)).2.2=0
   ·simp [he]
   ·simp [he]) (fun A out=>by unfold z3Y; simp) (fun b'=>(getS_any b').1) (lenD b 1).1 n 0 (lenD b 1).2.1 [] (by omega) (by omega) rfl (by omega)
  have h' : iter (z3Y n b (((lenD b 1).1:Int),((lenD b 1).2.1:Int),0)) n (((lenD b 1).2.1:Int),[],0)=_:=h
  rw [h']
  by_cases h2:(getN getS (lenD b 1).1 (b.drop (lenD b 1).2.1)).2.2=0
  ·simp [h2]
  ·simp [h2]
 ·simp [h0]
end Go.Proofs.YtgjcniomhahgkaaGreatDoor
namespace Go.Proofs.YtgjcniomhahgkaaGreatDoor
open Go.Abs
theorem zkx {k:Nat} (h:k<1073741824):z3b (k:Int)=some []:=by
 unfold z3b
 simp only [show decide ((k:Int)<0)=false by simp,cond_false,Int.sub_zero]
 rw [w64 (by omega) (by omega)]
 by_cases h0:0<k
 ·simp only [show decide ((0:Int)<(k:Int))=true by simp; omega,cond_true]
  rw [zW (by omega),zW (by simp)]
  simp
 ·simp only [show decide ((0:Int)<(k:Int))=false by simp; omega,cond_false,z12]
theorem zfm {n:Nat} {l:List (List UInt8)} (hn:l.length<n) (hl:l.length<1073741824) (hs:(l.map List.length).sum<1073741824):z2F n l=some (l.flatMap id):=by
 unfold z2F
 have h1:=z7p (l:=l) (step:=z2f l) (fun i=>((((l.take i).map List.length).sum:Nat),(i:Int))) (.go (((l.map List.length).sum:Nat):Int)) (fun i hi=>by
  unfold z2f
  have:=sum_le hi
  simp only [show decide ((i:Int)<(l.length:Int))=true by simp; omega,cond_true]
  rw [z1J hi,w64 (by omega) (by omega),show decide (((((l.take i).map List.length).sum:Nat):Int)+(l[i].length:Int)<0)=false by simp; omega]
  simp only [cond_false]
  rw [w_suc (N:=l.length) (by omega) (by omega),sum_take hi]
  simp) (by unfold z2f; simp) n 0 (by omega) (by omega)
 have h1' : iter (z2f l) n (0,0)=some (.go (((l.map List.length).sum:Nat):Int)):=h1
 rw [h1']
 simp only [z12,zkx hs,obind,Option.bind_some]
 have hfl:∀ i,((l.take i).flatMap id).length=((l.take i).map List.length).sum:=fun i=>by simp [List.length_flatMap]
 have h2:=z7p (l:=l) (step:=z2g l) (fun i=>((l.take i).flatMap id,(i:Int))) (.go (l.flatMap id)) (fun i hi=>by
  unfold z2g
  have:=sum_le hi
  simp only [show decide ((i:Int)<(l.length:Int))=true by simp; omega,cond_true]
  rw [z1J hi,zW (by rw [hfl]; omega),w_suc (N:=l.length) (by omega) (by omega),flat_takeW id hi]
  rfl) (by unfold z2g; simp) n 0 (by omega) (by omega)
 have h2' : iter (z2g l) n ([],0)=some (.go (l.flatMap id)):=h2
 rw [h2']; rfl
def z3E (m:zH):List (List UInt8):=m.Name::m.Code.map (·.S)
def z5I (m:zH):List Int:=m.Code.flatMap fun x=>[x.Op,x.A]
def encM (m:zH):List UInt8:=encL encS (z3E m)++encL encI m.Effects++encL encI (z5I m)
theorem z9K (l:List z6):(l.flatMap fun x=>[x.Op,x.A]).length=2*l.length:=by
 induction l with
 | nil=>rfl
 | cons x r ih=>simp [List.flatMap_cons,ih]; omega
theorem zf1 {l:List z6} {i:Nat} (h:i<l.length) (a:List UInt8):a::(l.take (i+1)).map (·.S)=(a::(l.take i).map (·.S))++[l[i].S]:=by rw [List.take_succ_eq_append_getElem h,List.map_append]; rfl
theorem zfT {l:List z6} {i:Nat} (h:i<l.length):(l.take (i+1)).flatMap (fun x=>[x.Op,x.A])=(l.take i).flatMap (fun x=>[x.Op,x.A])++[l[i].Op,l[i].A]:=by rw [List.take_succ_eq_append_getElem h,List.flatMap_append]; rfl
theorem zc4 {n:Nat} {m:zH} (hn:2*m.Code.length+10<n) (hne:m.Effects.length<n) (hl:m.Code.length<1000000) (hle:m.Effects.length<1000000) (hT:∀ v∈z3E m,v.length<1073741824)
  (hE:∀ v∈m.Effects,-9223372036854775808≤v∧v≤9223372036854775807) (hN:∀ v∈z5I m,-9223372036854775808≤v∧v≤9223372036854775807)
  (h1:((z3E m).flatMap encS).length<200000000) (h2:(m.Effects.flatMap encI).length<200000000) (h3:((z5I m).flatMap encI).length<200000000):z4s n m=some (encM m):=by
 have hq:=z7p (l:=m.Code) (step:=z4y m) (fun i=>(m.Name::(m.Code.take i).map (·.S),(m.Code.take i).flatMap (fun x=>[x.Op,x.A]),(i:Int))) (.go (z3E m,z5I m)) (fun i hi=>by
  unfold z4y
  simp only [show decide ((i:Int)<(m.Code.length:Int))=true by simp; omega,cond_true]
  rw [z1J hi,zW (by simp; omega),zW (by rw [z9K]; simp; omega),w_suc (N:=m.Code.length) (by omega) (by omega),zf1 hi,zfT hi]) (by unfold z4y; simp [z3E,z5I]) n 0 (by omega) (by omega)
 have hq' : iter (z4y m) n ([m.Name],[],0)=some (.go (z3E m,z5I m)):=hq
 have e1:(z3E m).length=m.Code.length+1:=by simp [z3E]
 have e2:(z5I m).length=2*m.Code.length:=z9K _
 have a1:=(encI_len (n:=((z3E m).length:Int)) (by omega) (by omega)).2
 have a2:=(encI_len (n:=(m.Effects.length:Int)) (by omega) (by omega)).2
 have a3:=(encI_len (n:=((z5I m).length:Int)) (by omega) (by omega)).2
 unfold z4s
 rw [hq']
 simp only [z12,obind]
 rw [zd1 (by omega) (by omega) hT (by omega) (by omega)]
 simp only [Option.bind_some]
 rw [ze5 (by omega) hne hE (by omega) (by omega)]
 simp only [Option.bind_some]
 rw [ze5 (by omega) (by omega) hN (by omega) (by omega)]
 simp only [Option.bind_some]
 rw [zfm (by simp; omega) (by simp) (by simp only [encL,List.map_cons,List.map_nil,List.sum_cons,List.sum_nil,List.length_append]; omega)]
 simp [encM]
end Go.Proofs.YtgjcniomhahgkaaGreatDoor
namespace Go.Proofs.YtgjcniomhahgkaaGreatDoor
open Go.Abs
def mkI:List (List UInt8)→List Int→List z6
 | t::ts,a::b::ns=>⟨a,b,t⟩::mkI ts ns
 | _,_=>[]
theorem zgQ:∀ (ts:List (List UInt8)) (ns:List Int) (h:ns.length=2*ts.length) (i:Nat) (hi:i<ts.length),(mkI ts ns)[i]? = some ⟨ns[2*i],ns[2*i+1],ts[i]⟩
  | t::ts,a::b::ns,h,0,hi=>rfl
  | t :: ts, a :: b :: ns, h, i + 1, hi => by
    have:=zgQ ts ns (by simp at h; omega) i (by simpa using hi)
    simp only [mkI,List.getElem?_cons_succ,this]
    simp [Nat.mul_add]
  | t::ts,[a],h,i,hi=>by simp at h; omega
  | t::ts,[],h,i,hi=>by simp at h
theorem zgR:∀ (ts:List (List UInt8)) (ns:List Int),ns.length=2*ts.length→(mkI ts ns).length=ts.length
 | [],ns,h=>by cases ns <;> simp [mkI]
 | t::ts,a::b::ns,h=>by simp [mkI,zgR ts ns (by simp at h; omega)]
 | t::ts,[a],h=>by simp at h; omega
 | t::ts,[],h=>by simp at h
theorem znv (l:List z6):mkI (l.map (·.S)) (l.flatMap fun x=>[x.Op,x.A])=l:=by
 induction l with
 | nil=>rfl
 | cons x r ih=>simp only [List.map_cons,List.flatMap_cons,List.cons_append,List.nil_append,mkI,ih]
def parts (b:List UInt8):Option zH:=
  let t:=getL getS 1 b
  if t.2.2≠0 then none else
  match t.1 with
  | []=>none
  | a :: ts =>
    let e:=getL getI 1 (b.drop t.2.1)
    if e.2.2≠0 then none else
    let u:=getL getI 1 (b.drop (t.2.1+e.2.1))
    if u.2.2≠0∨t.2.1+e.2.1+u.2.1≠b.length∨u.1.length≠2*ts.length then none else some ⟨a,e.1,mkI ts u.1⟩
theorem zcs (m:zH) (hl:m.Code.length<1000000) (hle:m.Effects.length<1000000) (hT:∀ v∈z3E m,v.length<1073741824)
  (hE:∀ v∈m.Effects,-9223372036854775808≤v∧v≤9223372036854775807) (hN:∀ v∈z5I m,-9223372036854775808≤v∧v≤9223372036854775807):parts (encM m)=some m:=by
 have e1:(z3E m).length=m.Code.length+1:=by simp [z3E]
 have e2:(z5I m).length=2*m.Code.length:=z9K _
 have h1:=getLS_enc (z3E m) (encL encI m.Effects++encL encI (z5I m)) (by omega) (fun s hs=>by have:=hT s hs; omega)
 have h2:=getLI_enc m.Effects (encL encI (z5I m)) (by omega) hE
 have h3:=getLI_enc (z5I m) [] (by omega) hN
 rw [List.append_nil] at h3
 unfold parts
 have hm:encM m=encL encS (z3E m)++(encL encI m.Effects++encL encI (z5I m)):=by unfold encM; rw [List.append_assoc]
 have d1:(encM m).drop (encL encS (z3E m)).length=encL encI m.Effects++encL encI (z5I m):=by rw [hm]; simp
 have d2:(encM m).drop ((encL encS (z3E m)).length+(encL encI m.Effects).length)=encL encI (z5I m):=by rw [← List.drop_drop,d1]; simp
 rw [hm] at d1 d2 ⊢
 simp only [h1,d1,d2,h2,h3,ne_eq,not_true_eq_false,if_false]
 simp only [z3E,List.length_map,false_or]
 rw [if_neg (by rw [e2]; simp [z3E]; omega)]
 have:=znv m.Code
 unfold z5I
 rw [this]
end Go.Proofs.YtgjcniomhahgkaaGreatDoor
namespace Go.Proofs.YtgjcniomhahgkaaGreatDoor
open Go.Abs
theorem zcP {n:Nat} {a:List UInt8} {ts:List (List UInt8)} {ns:List Int} {x y x' y' : Int} (h:ns.length=2*ts.length) (hn:ts.length<n) (hl:ts.length<1000000) :
  iter (z4x (a::ts,x,y) (ns,x',y')) n (0,[])=some (.go (mkI ts ns)):=by
 have hk:=zgR ts ns h
 have hq:=z7p (l:=ts) (step:=z4x (a::ts,x,y) (ns,x',y')) (fun i=>((i:Int),(mkI ts ns).take i)) (.go (mkI ts ns)) (fun i hi=>by
  unfold z4x
  simp only [show (1:Int).toNat=1 from rfl,List.drop_succ_cons,List.drop_zero]
  simp only [show decide ((i:Int)<(ts.length:Int))=true by simp; omega,cond_true]
  rw [z1J hi,w64 (x:=2*(i:Int)) (by omega) (by omega),w64 (x:=2*(i:Int)+1) (by omega) (by omega)]
  rw [show (2*(i:Int)+1)=((2*i+1:Nat):Int) by omega,show (2*(i:Int))=((2*i:Nat):Int) by omega,z1J (by omega),z1J (by omega),zW (by simp; omega),w_suc (N:=ts.length) (by omega) (by omega)]
  have hg:=zgQ ts ns h i hi
  have hlt:i<(mkI ts ns).length:=by omega
  rw [List.getElem?_eq_getElem hlt] at hg
  rw [List.take_succ_eq_append_getElem hlt,Option.some.inj hg]) (by
  unfold z4x
  simp [← hk]) n 0 (by omega) (by omega)
 exact hq
theorem zc2 {n:Nat} {b:List UInt8} (hb:b.length<1000000) (hn:b.length<n) :
    z3Z n b=match parts b with | none=>some (⟨[],[],[]⟩,11) | some m=>obind (z3B n m) fun r=>cond (decide (r≠0)) (some (⟨[],[],[]⟩,11)) (some (m,0)):=by
  unfold z3Z parts
  rw [zcS (by omega) hn]
  simp only [obind,Option.bind_some]
  have a1:=getLS_any b
  generalize getL getS 1 b=t at *
  obtain ⟨tl,tu,te⟩:=t
  simp only at a1 ⊢
  by_cases h1:te=0
  · subst h1
    cases tl with
    | nil=>simp
    | cons a ts =>
      simp only [List.length_cons] at a1
      simp only [Int.natCast_zero,ne_eq,not_true_eq_false,decide_false,Bool.false_or,List.length_cons,if_false]
      rw [show decide (((ts.length+1:Nat):Int)=0)=false by simp; omega]
      simp only [cond_false,Int.toNat_natCast]
      rw [zW (by omega),zdT (by simp; omega) (by simp; omega)]
      simp only [Option.bind_some]
      have a2:=getLI_any (b.drop tu)
      rw [List.length_drop] at a2
      generalize getL getI 1 (b.drop tu)=e at *
      obtain ⟨el,eu,ee⟩:=e
      simp only at a2 ⊢
      by_cases h2:ee=0
      · subst h2
        simp only [Int.natCast_zero,not_true_eq_false,decide_false,cond_false,if_false]
        rw [w64 (x:=(tu:Int)+(eu:Int)) (by omega) (by omega),zW (by omega),show ((tu:Int)+(eu:Int)).toNat=tu+eu by omega,zdT (by simp; omega) (by simp; omega)]
        simp only [Option.bind_some]
        have a3:=getLI_any (b.drop (tu+eu))
        rw [List.length_drop] at a3
        generalize getL getI 1 (b.drop (tu+eu))=u at *
        obtain ⟨ul,uu,ue⟩:=u
        simp only at a3 ⊢
        have w1:IntKind.i64.wrap ((tu:Int)+(eu:Int)+(uu:Int))=(tu:Int)+(eu:Int)+(uu:Int):=w64 (by omega) (by omega)
        have w2:IntKind.i64.wrap (2*((ts.length+1:Nat):Int))=2*((ts.length+1:Nat):Int):=w64 (by omega) (by omega)
        have w3:IntKind.i64.wrap (2*((ts.length+1:Nat):Int) - 2)=2*((ts.length+1:Nat):Int) - 2:=w64 (by omega) (by omega)
        simp only [w1,w2,w3]
        by_cases h3:ue=0∧tu+eu+uu=b.length∧ul.length=2*ts.length
        · obtain ⟨rfl,h4,h5⟩:=h3
          have c1:(tu:Int)+(eu:Int)+(uu:Int)=(b.length:Int):=by omega
          have c2:(ul.length:Int)=2*((ts.length+1:Nat):Int) - 2:=by omega
          rw [if_neg (by simp; exact ⟨h4,h5⟩)]
          simp only [c1,c2,Int.natCast_zero,not_true_eq_false,decide_false,Bool.or_self,cond_false]
          rw [z4l (w:=0) (by omega) (by simp),zW (by omega),zcP h5 (by omega) (by omega)]
          rfl
        · rw [if_pos (by by_cases c1:ue=0 <;> by_cases c2:tu+eu+uu=b.length <;> simp_all)]
          by_cases c1:ue=0
          · by_cases c2:tu+eu+uu=b.length
            · have c3:¬ (ul.length:Int)=2*((ts.length+1:Nat):Int) - 2:=by omega
              simp only [c3,not_false_eq_true,decide_true,Bool.or_true,cond_true]
            · have c3:¬ ((tu:Int)+(eu:Int)+(uu:Int)=(b.length:Int)):=by omega
              simp only [c3,not_false_eq_true,decide_true,Bool.or_true,Bool.true_or,cond_true]
          · have c3:¬ ((ue:Int)=0):=by omega
            simp only [c3,not_false_eq_true,decide_true,Bool.true_or,cond_true]
      · have c3:¬ ((ee:Int)=0):=by omega
        rw [if_pos h2]
        simp only [c3,not_false_eq_true,decide_true,cond_true]
  · have c3:¬ ((te:Int)=0):=by omega
    rw [if_pos h1]
    simp only [c3,ne_eq,not_false_eq_true,decide_true,Bool.true_or,cond_true]
end Go.Proofs.YtgjcniomhahgkaaGreatDoor
namespace Go.Proofs.YtgjcniomhahgkaaGreatDoor
open Go.Abs
def R64 (x:Int):Prop:=-9223372036854775808≤x∧x≤9223372036854775807
theorem z8h {α:Type} {one:α→List UInt8} {k:Nat}:∀ l:List α,(∀ x∈l,(one x).length≤k)→(l.flatMap one).length≤k*l.length
  | [],_=>by simp
  | x :: l, h => by
    have:=z8h l (fun y hy=>h y (.tail _ hy)); have:=h x (.head _)
    simp only [List.flatMap_cons,List.length_append,List.length_cons,Nat.mul_succ]; omega
theorem zgF {s:List UInt8} (h:s.length≤1073741824):(encS s).length≤s.length+10:=by
 unfold encS; have:=(encI_len (n:=(s.length:Int)) (by omega) (by omega)).2; simp only [List.length_append]; omega
end Go.Proofs.YtgjcniomhahgkaaGreatDoor
