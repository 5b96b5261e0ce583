/-
  Texts that stand side by side: TcPu, TuA, TuF, AbsEnd, AbsEnd3, AbsEnd4, AbsEnd5, AbsLaid, TeOpn, TeOpq, TeLaid, TeCp.
-/
import Derived.Test.YtgjcniomhahgkaaGreatDoorM49
import Derived.Test.YtgjcniomhahgkaaGreatDoorM48
import Derived.Test.YtgjcniomhahgkaaGreatDoorTeDefs
import Derived.Test.YtgjcniomhahgkaaGreatDoorM0
import Derived.WalkKit
import Derived.ProofKit
import Derived.OpenShut
import Derived.ShutString
import Derived.ChangeOld
import Derived.Below
import Derived.SliceStrings
import Derived.Test.YtgjcniomhahgkaaGreatDoorM1
import Derived.ChangeArms
import Derived.LaidHandle
import Derived.Deep.DeepHandedRow
import Derived.Test.YtgjcniomhahgkaaGreatDoorRows
import Derived.Test.YtgjcniomhahgkaaGreatDoorM9
import Derived.Test.YtgjcniomhahgkaaGreatDoorM11
import Derived.Test.YtgjcniomhahgkaaGreatDoorChecked
import Derived.Test.YtgjcniomhahgkaaGreatDoorCards
import Derived.Test.YtgjcniomhahgkaaGreatDoorTie
import Derived.Deep.DeepWitnessRowRef
set_option linter.unusedSimpArgs false
set_option linter.unusedVariables false
namespace Go.Proofs.YtgjcniomhahgkaaGreatDoor
open Go.Abs
def Rg (y:z6):Prop:=R64 y.Op∧R64 y.A∧y.S.length≤200
theorem zey {op:Int} {a:Nat} {s:List UInt8} (h:0≤op∧op≤100) (ha:a<100000000) (hs:s.length≤200):Rg ⟨op,(a:Int),s⟩:=⟨⟨by simp only; omega,by simp only; omega⟩,⟨by simp only; omega,by simp only; omega⟩,hs⟩
mutual
theorem rgE:∀ (x:zm) (vs:List Int),rE x vs→x.nodes<1000000→vs.length<1000000→∀ y∈cE x,Rg y
  | ⟨op, ty, n, slot, s, l⟩, vs, hr, h1, h2, y, hy => by
    simp only [zm.nodes] at h1
    simp only [rE] at hr
    simp only [cE,List.mem_append,List.mem_cons,List.not_mem_nil,or_false] at hy
    obtain ⟨_,⟨rfl,hlf⟩ | ⟨har,hel,_⟩⟩:=hr
    · rcases hy with hy | rfl
      · simp [cEL] at hy
      · rcases hlf with ⟨rfl,h0,h1,rfl⟩ | ⟨rfl | rfl,h1,rfl⟩ | ⟨rfl | rfl,rfl⟩ | ⟨rfl,rfl⟩ | ⟨rfl,h0,h1⟩
        · simp [Rg,R64]; omega
        · simpa [Rg,R64] using h1
        · simpa [Rg,R64] using h1
        · simp [Rg,R64]
        · simp [Rg,R64]
        · simp [Rg,R64]
        · obtain ⟨h2,h3⟩:=List.getElem?_eq_some_iff.1 h1
          simp [Rg,R64]; omega
    · rcases hy with hy | rfl
      · exact rgEL l vs hel (by omega) h2 y hy
      · have hl:=z4L l
        have h8:=har.1
        have h23:=har.2.1
        simp only [show ¬ op=3 by omega,show ¬ op=1 by omega,show ¬ (op=2∨op=6) by omega,if_false]
        refine ⟨⟨by simp only; omega,by simp only; omega⟩,?_,by simp⟩
        simp only [R64]
        split <;> omega
theorem rgEL:∀ (l:List zm) (vs:List Int),rEL l vs→z2W l<1000000→vs.length<1000000→∀ y∈cEL l,Rg y
  | [],vs,hr,h1,h2,y,hy=>by simp [cEL] at hy
  | x :: r, vs, hr, h1, h2, y, hy => by
    simp only [z2W] at h1
    simp only [rEL] at hr
    simp only [cEL,List.mem_append] at hy
    rcases hy with hy | hy
    · exact rgE x vs hr.1 (by omega) h2 y hy
    · exact rgEL r vs hr.2 (by omega) h2 y hy
end
theorem zlf {s:z7} {vs:List Int} (h:stF s.Kind s.Slot s.N s.Name s.X.Type_ vs) (hv:vs.length<1000000):Rg (lastI s):=by
 obtain ⟨k1,k9,hnm,_,s1,s2,_⟩:=h
 unfold lastI
 split
 ·rename_i h12
  refine ⟨⟨by simp,by simp⟩,?_,by simp⟩
  rcases h12 with h | h
  ·have:=(s1 h).1; simp only [R64]; omega
  ·obtain ⟨h3,h4⟩:=s2 h
   obtain ⟨h5,_⟩:=List.getElem?_eq_some_iff.1 h4
   simp only [R64]; omega
 ·repeat' split
  all_goals simp [Rg,R64]
  exact hnm
mutual
theorem rgS:∀ (s:z7) (pos:Nat) (vs:List Int),rS s vs→s.nodes<1000000→pos+7*s.nodes<10000000→vs.length+s.nodes<1000000→∀ y∈cS s pos vs.length,Rg y
  | ⟨kind, slot, n, name, x, b, e⟩, pos, vs, hr, h1, h2, h3, y, hy => by
    simp only [z7.nodes] at h1 h2 h3
    simp only [rS] at hr
    obtain ⟨hst,hre,hrb,hre2⟩:=hr
    have hd:Rg ⟨41,(vs.length:Int),[]⟩:=zey (by omega) (by omega) (by simp)
    have h30:Rg ⟨30,0,[]⟩:=by simp [Rg,R64]
    have hxl:=zbz x
    by_cases h6:kind=6
    · rw [cS6 _ _ _ h6] at hy
      simp only [List.mem_append,List.mem_cons,List.not_mem_nil,or_false] at hy
      have hkl:=z7J b (pos+3) vs.length
      rcases hy with ((rfl | rfl | rfl) | hy) | rfl | rfl
      · exact h30
      · have:=hst.2.2.2.1 h6
        exact ⟨by simp [R64],⟨by simp only; omega,by simp only; omega⟩,by simp⟩
      · exact zey (by omega) (by omega) (by simp)
      · exact rgB b (pos+3) vs hrb (by omega) (by omega) (by omega) y hy
      · exact hd
      · exact zey (by omega) (by omega) (by simp)
    · by_cases h5:kind=5
      · rw [cS5 ⟨kind,slot,n,name,x,b,e⟩ pos vs.length h5 rfl rfl rfl] at hy
        simp only [List.mem_append,List.mem_cons,List.not_mem_nil,or_false] at hy
        have hkl:=z7J b (pos+2+(cE x).length) vs.length
        have hjl:=z7J e (pos+4+(cE x).length+(cB b (pos+2+(cE x).length) vs.length).length) vs.length
        rcases hy with (((((rfl | hy) | rfl) | hy) | rfl | rfl) | hy) | rfl
        · exact h30
        · exact rgE x vs (hre h6) (by omega) (by omega) y hy
        · exact zey (by omega) (by omega) (by simp)
        · exact rgB b _ vs hrb (by omega) (by omega) (by omega) y hy
        · exact hd
        · exact zey (by omega) (by omega) (by simp)
        · exact rgB e _ vs hre2 (by omega) (by omega) (by omega) y hy
        · exact hd
      · rw [cSo _ _ _ h5 h6] at hy
        simp only [List.mem_append,List.mem_cons,List.not_mem_nil,or_false] at hy
        rcases hy with (rfl | hy) | rfl
        · exact h30
        · exact rgE x vs (hre h6) (by omega) (by omega) y hy
        · exact zlf (s:=⟨kind,slot,n,name,x,b,e⟩) hst (by omega)
theorem rgB:∀ (l:List z7) (pos:Nat) (vs:List Int),rB l vs→z1y l<1000000→pos+7*z1y l<10000000→vs.length+z1y l<1000000→∀ y∈cB l pos vs.length,Rg y
  | [],pos,vs,hr,h1,h2,h3,y,hy=>by simp [cB] at hy
  | s :: r, pos, vs, hr, h1, h2, h3, y, hy => by
    simp only [rB] at hr
    simp only [z1y] at h1 h2 h3
    have hd:(if s.Kind=1 then (vs.length:Int)+1 else vs.length)=((nextV s vs).length:Int):=by unfold nextV; split <;> simp
    have hsn:=z5o s
    have hv:(nextV s vs).length≤vs.length+1:=by unfold nextV; split <;> simp
    simp only [cB,hd,List.mem_append] at hy
    have hsl:=zhn s pos vs.length
    rcases hy with hy | hy
    · exact rgS s pos vs hr.1 (by omega) (by omega) (by omega) y hy
    · exact rgB r _ (nextV s vs) hr.2 (by omega) (by omega) (by omega) y hy
end
end Go.Proofs.YtgjcniomhahgkaaGreatDoor
namespace Go.Proofs.YtgjcniomhahgkaaGreatDoor
open Go.Abs
theorem zbA (n:Nat) (m:zH) (l:List z7) (hn:100000≤n) (hC:m.Code=cB l 0 0) (hr:rB l []) (hl:z1y l≤200) (hN:m.Name.length≤200) (he:effB m.Effects):z3B n m=some 0:=by
 have hcl:=z7J l 0 0
 have hlen:m.Code.length≤1400:=by rw [hC]; omega
 have h0:∀ k:Int,mget (mput ([]:MT) (0:Int) (zl.mk [] [] [])) k=if k=0 then some ⟨[],[],[]⟩ else none:=fun k=>by rw [zaL]; rfl
 have hv0:(cB l 0 (([]:List Int).length:Int))=m.Code:=by rw [hC]; rfl
 obtain ⟨M,⟨_,hs⟩,g,_⟩:=walkB (n:=n) (m:=m) hn (by omega) l 0 (mput ([]:MT) (0:Int) (zl.mk [] [] [])) [] [] hr (by rw [hv0]; exact ⟨[],[],by simp,rfl⟩) (by rw [h0]; rfl)
  ⟨fun k k1 k2=>by rw [h0,if_neg (by omega)],fun hp=>.inl (by rw [h0,if_neg (by omega)])⟩ (by simp) (by simp; omega)
 rw [hv0] at hs g
 have hit:=hs (n - m.Code.length)
 rw [show n - m.Code.length+(0+m.Code.length - 0)=n by omega] at hit
 have hend:iter (z1E n m) (n - m.Code.length) (((0+m.Code.length:Nat):Int),M)=some (.go M):=by
  rw [show n - m.Code.length=(n - m.Code.length - 1)+1 by omega]
  apply z3q
  unfold z1E
  simp
 unfold z3B
 rw [show (decide (65536<(m.Code.length:Int)) || decide (200<(m.Name.length:Int)))=false by simp; omega]
 simp only [cond_false,zcF n m.Effects (by have:=he.1; omega) he,obind,Option.bind_some,Bool.not_true,z12]
 rw [show ((0:Int),mput ([]:MT) (0:Int) (zl.mk [] [] []))=(((0:Nat):Int),mput ([]:MT) (0:Int) (zl.mk [] [] [])) from rfl,hit,hend]
 simp only [z12]
 rw [show (m.Code.length:Int)=((0+m.Code.length:Nat):Int) by omega,g]
 simp
theorem z9y (N:Nat) (p:zG) (hok:okB p.Code) (hN:z1y p.Code+1<N) (hnd:z1y p.Code≤200) (he:p.Effects.length≤1048576):z36 N p=some (⟨p.Name,p.Effects,cB p.Code 0 0⟩,0):=by
 have hc:=ccode N p.Code [] 0 hok hN (by simp; omega) (by omega) (by omega)
 have hl:=z7J p.Code 0 0
 unfold z36
 simp only [obind,hc,Option.bind_some,List.length_nil,List.nil_append]
 have h1:decide (65536<((cB p.Code 0 0).length:Int))=false:=decide_eq_false (by omega)
 rw [h1,cond_false]
 exact zW (by omega) _
theorem zkN (N:Nat) (p:zG) (hr:rB p.Code []) (heB:effB p.Effects) (hN:1000000≤N) (hnd:z1y p.Code≤200) (hnm:p.Name.length≤200) :
  ∃ bs,z36 N p=some (⟨p.Name,p.Effects,cB p.Code 0 0⟩,0)∧z4s N ⟨p.Name,p.Effects,cB p.Code 0 0⟩=some bs∧z3Z N bs=some (⟨p.Name,p.Effects,cB p.Code 0 0⟩,0):=by
 have hl:=z7J p.Code 0 0
 have e6:=heB.1
 have hcmp:=z9y N p (zem _ _ hr) (by omega) hnd (by omega)
 have hck:=zbA N ⟨p.Name,p.Effects,cB p.Code 0 0⟩ p.Code (by omega) rfl hr hnd (by simp only; omega) heB
 have hrg:∀ y∈cB p.Code 0 0,Rg y:=rgB p.Code 0 [] hr (by omega) (by omega) (by simp; omega)
 generalize hm:zH.mk p.Name p.Effects (cB p.Code 0 0)=m at hck hcmp ⊢
 have m1:m.Name=p.Name:=by rw [← hm]
 have m2:m.Effects=p.Effects:=by rw [← hm]
 have m3:m.Code=cB p.Code 0 0:=by rw [← hm]
 have hml:m.Code.length≤1400:=by rw [m3]; omega
 have tT:∀ v∈z3E m,v.length≤200:=by
  intro v hv
  rcases List.mem_cons.1 hv with rfl | hv
  ·rw [m1]; omega
  ·obtain ⟨x,hx,rfl⟩:=List.mem_map.1 hv; rw [m3] at hx; exact (hrg x hx).2.2
 have tE:∀ v∈m.Effects,R64 v:=by rw [m2]; intro v hv; have:=heB.2.1 v hv; exact ⟨by omega,by omega⟩
 have tN:∀ v∈z5I m,R64 v:=by
  intro v hv
  obtain ⟨x,hx,hv⟩:=List.mem_flatMap.1 hv
  rw [m3] at hx
  simp at hv
  rcases hv with rfl | rfl
  ·exact (hrg x hx).1
  ·exact (hrg x hx).2.1
 have l1:(z3E m).length=m.Code.length+1:=by simp [z3E]
 have l2:(z5I m).length=2*m.Code.length:=z9K _
 have l3:m.Effects.length≤6:=by rw [m2]; exact e6
 have s1:((z3E m).flatMap encS).length≤210*(z3E m).length:=z8h _ fun v hv=>by have:=zgF (s:=v) (by have:=tT v hv; omega); have:=tT v hv; omega
 have s2:(m.Effects.flatMap encI).length≤10*m.Effects.length:=z8h _ fun v hv=>(encI_len (tE v hv).1 (tE v hv).2).2
 have s3:((z5I m).flatMap encI).length≤10*(z5I m).length:=z8h _ fun v hv=>(encI_len (tN v hv).1 (tN v hv).2).2
 have hen:=zc4 (n:=N) (m:=m) (by omega) (by omega) (by omega) (by omega) (fun v hv=>by have:=tT v hv; omega) tE tN (by omega) (by omega) (by omega)
 have hel:(encM m).length<400000:=by
  unfold encM encL
  have e1:=(encI_len (n:=((z3E m).length:Int)) (by omega) (by omega)).2
  have e2:=(encI_len (n:=(m.Effects.length:Int)) (by omega) (by omega)).2
  have e3:=(encI_len (n:=((z5I m).length:Int)) (by omega) (by omega)).2
  simp only [List.length_append]; omega
 have hp:=zcs m (by omega) (by omega) (fun v hv=>by have:=tT v hv; omega) tE tN
 have hd:=zc2 (n:=N) (b:=encM m) (by omega) (by omega)
 simp only [hp,hck,obind,Option.bind_some] at hd
 have hd0:z3Z N (encM m)=some (m,0):=hd
 exact ⟨encM m,hcmp,hen,hd0⟩
end Go.Proofs.YtgjcniomhahgkaaGreatDoor
namespace Go.Proofs.YtgjcniomhahgkaaGreatDoor
open Go.Abs
theorem awake (n:Nat):z2a (n+300)=some true:=by kernel_rfl
theorem zkm (n:Nat) (e:zP) (hn:20<n) (h:e.Headers.length≤10):∃ b,z5g n e=some b:=by
 unfold z5g
 obtain ⟨r,h1,_⟩:=z3s (step:=z68 e) (fun s=>∃ k:Nat,s=k) (fun s=>e.Headers.length - s.toNat) (fun _=>True) (fun s ⟨k,hk⟩=>by
  subst hk
  unfold z68
  by_cases hc:k<e.Headers.length
  ·simp only [show decide ((k:Int)<(e.Headers.length:Int))=true by simp; omega,cond_true]
   rw [z1J hc,z2P (N:=e.Headers.length) (by omega) (by omega)]
   cases (decide (4096<(e.Headers[k].Name.length:Int)) || decide (4096<(e.Headers[k].Value.length:Int)))
   ·exact .inl ⟨_,rfl,⟨k+1,rfl⟩,by simp; omega⟩
   ·exact .inr ⟨_,rfl,trivial⟩
  ·simp only [show decide ((k:Int)<(e.Headers.length:Int))=false by simp; omega,cond_false]
   exact .inr ⟨_,rfl,trivial⟩) n 0 ⟨0,rfl⟩ (by simp; omega)
 rw [h1]
 cases r <;> exact ⟨_,rfl⟩
theorem znN (n:Nat) (m:zH) (e:zP) (k:Int):z5F n m e k=z66 n m e k:=by
 unfold z5F z66; rfl
theorem zkI (N:Nat) (p:zG) (e:zP) (c:zN) (hN:100000≤N) (hA:z2a N=some true) (hU:usedH N p=some (usedL p.Code)) (hh:e.Headers.length≤10) (hE:Ef (hasB · p.Code) (out0 e) c.Out) (hF:c.Out.End=0∨Fk (hasB · p.Code) c.Out) :
    (obind (usedH N p) fun r122 =>
                    obind (z1S N r122 3) fun r125=>
                    bindJ (S:=Bool)
                      (cond ((!r125) && decide (c.Out.Edge.Status≠e.Status))
                        (some (.go true))
                        (obind (z1S N r122 4) fun r136=>
                        some (.go ((!r136) && decide (0<(c.Out.Logs.length:Int))))))
                    (fun b130=>
                      bindJ (S:=Bool)
                        (cond b130
                          (some (.go true))
                          (obind (z1S N r122 5) fun r147=>
                          some (.go ((!r147) && decide (c.Out.End=1)))))
                      (fun b141=>
                        bindJ (S:=Bool)
                          (cond b141
                            (some (.go true))
                            (obind (z1S N r122 6) fun r158=>
                            some (.go ((!r158) && decide (c.Out.End=2)))))
                        (fun b152=>
                          cond b152
                            (some false)
                            (obind (z1S N r122 2) fun r164=>
                            cond r164
                              (obind (z2a N) fun r167=>
                              some r167)
                              (bindJ (S:=Unit)
                                (iter (z2d e (c.Out,0)) N 0)
                              (fun _=>
                                obind (z2a N) fun r188=>
                                some r188)))))))=some true:=by
  obtain ⟨f1,f2,f3,f4⟩:=hE
  obtain ⟨b3,h3,k3⟩:=z9U N (by omega) p.Code (e:=3) (k:=4) (by simp)
  obtain ⟨b4,h4,k4⟩:=z9U N (by omega) p.Code (e:=4) (k:=7) (by simp)
  obtain ⟨b5,h5,k5⟩:=z9U N (by omega) p.Code (e:=5) (k:=8) (by simp)
  obtain ⟨b6,h6,k6⟩:=z9U N (by omega) p.Code (e:=6) (k:=9) (by simp)
  obtain ⟨b2,h2,k2⟩:=z9U N (by omega) p.Code (e:=2) (k:=3) (by simp)
  have e3:((!b3) && decide (c.Out.Edge.Status≠e.Status))=false:=by
    cases b3 with
    | true=>rfl
    | false=>simp [f2 (k3 rfl),out0]
  have e4:((!b4) && decide (0<(c.Out.Logs.length:Int)))=false:=by
    cases b4 with
    | true=>rfl
    | false=>simp [f3 (k4 rfl),out0]
  have e5:((!b5) && decide (c.Out.End=1))=false:=by
    cases b5 with
    | true=>rfl
    | false =>
      have:c.Out.End≠1:=by
        rcases hF with h | ⟨_,h⟩ | ⟨h,_⟩
        · omega
        · exact absurd h (k5 rfl)
        · omega
      simp [this]
  have e6:((!b6) && decide (c.Out.End=2))=false:=by
    cases b6 with
    | true=>rfl
    | false =>
      have:c.Out.End≠2:=by
        rcases hF with h | ⟨h,_⟩ | ⟨_,h⟩
        · omega
        · omega
        · exact absurd h (k6 rfl)
      simp [this]
  simp only [hU,h3,h4,h5,h6,h2,obind,Option.bind_some,e3,e4,e5,e6,cond_false,z12,hA]
  cases b2 with
  | true=>rfl
  | false =>
    rw [ze1 N e (c.Out,0) (f1 (k2 rfl)) (by omega) (by omega)]
    rfl
theorem law (p:zG) (e:zP) (hb:z1y p.Code≤1048576) (he:p.Effects.length≤1048576):∃ n,z45 n p e=some true:=by
 refine ⟨8*z1y p.Code+p.Effects.length+1000000+300,?_⟩
 have hA:=awake (8*z1y p.Code+p.Effects.length+1000000)
 generalize hN:8*z1y p.Code+p.Effects.length+1000000+300=N at hA ⊢
 obtain ⟨r,hr,r0,r1,r2⟩:=zga N p.Code (by omega) (by omega)
 unfold z45
 rw [hr]
 simp only [obind,Option.bind_some]
 by_cases hcs:200<r∨100<p.Name.length
 ·rw [show (decide (200<r) || decide (100<(p.Name.length:Int)))=true by simp; omega]
  simp only [cond_true,z12,Bool.true_or,hA,Option.bind_some]
 ·rw [show (decide (200<r) || decide (100<(p.Name.length:Int)))=false by simp; omega]
  have hnd:z1y p.Code≤200:=by have:=r2 (by omega); omega
  obtain ⟨b,hR,hok⟩:=zcu N p (by omega) (by omega) (by omega) (by omega)
  simp only [cond_false,hR,Option.bind_some,z12]
  cases b
  ·simp only [Bool.not_false,Bool.true_or,cond_true,z12,hA,Option.bind_some]
  ·obtain ⟨hrB,heB⟩:=hok rfl
   by_cases hh:10<e.Headers.length
   ·rw [show ((!true) || decide (10<(e.Headers.length:Int)))=true by simp; omega]
    simp only [cond_true,z12,hA,Option.bind_some]
   ·rw [show ((!true) || decide (10<(e.Headers.length:Int)))=false by simp; omega]
    obtain ⟨b,hE⟩:=zkm N e (by omega) (by omega)
    simp only [cond_false,hE,Option.bind_some,z12]
    cases b
    ·simp only [Bool.not_false,cond_true,hA,Option.bind_some]
    ·simp only [Bool.not_true,cond_false]
     rcases zkV N p (by omega) (by omega) hrB heB with ⟨x,h1,hx,q,h2⟩ | ⟨h1,hT,lo,h2,hlo⟩
     ·simp only [h1,h2,Option.bind_some]
      rw [show (decide (x≠0) || decide ((20000:Int)<0))=true by simp [hx]]
      simp only [cond_true,hA,Option.bind_some]
     ·simp only [h1,h2,Option.bind_some]
      by_cases hM:(wB (ex 0) p.Code).M≤20000
      ·rw [show (decide ((0:Int)≠0) || decide ((20000:Int)<(((wB (ex 0) p.Code).M:Nat):Int)))=false by simp; omega]
       obtain ⟨bs,m1,m2,m3⟩:=zkN N p hrB heB (by omega) hnd (by omega)
       simp only [cond_false,m1,m2,m3,Option.bind_some]
       rw [show ((decide ((0:Int)≠0) || decide ((0:Int)≠0)) || decide ((0:Int)≠0))=false by simp]
       obtain ⟨c,g1,g2,g3⟩:=znd N ⟨p.Name,p.Effects,cB p.Code 0 0⟩ p.Code e (by omega) rfl hrB hnd (by omega) hM
       simp only [cond_false,zdl e (by omega),g1,Option.bind_some,z12]
       rcases g3 with g3 | ⟨g3,k,g4,g5,g6,g7,g8⟩
       ·have hne:decide (c.E≠0)=true:=by simp; rcases g3 with h | h <;> omega
        have hev:(decide (c.E=203) || decide (c.E=202))=true:=by simp; rcases g3 with h | h <;> omega
        simp only [hne,cond_true,hA,Option.bind_some,hev,Bool.and_self]
       ·have hne:decide (c.E≠0)=false:=by simp [g3]
        have hrun:=zll (n:=N) (m:=⟨p.Name,p.Effects,cB p.Code 0 0⟩) (e:=e) (by omega) g1 g2 g3
        have hkm:k≤(wB (ex 0) p.Code).M:=by
         unfold Way.M
         rcases g5 with h | h
         ·have:=h.le; omega
         ·have:=h.le; omega
        have hcost:((decide ((0:Int)≠0) || decide (c.Spent<(lo:Int))) || decide ((((wB (ex 0) p.Code).M:Nat):Int)<c.Spent))=false:=by
         have:=hlo k g5
         rw [g4]; simp; omega
        have hlg:c.Out.Logs.length≤100:=g6.2.2.2 (by simp [out0])
        simp only [hne,cond_false,znN,hrun,Option.bind_some,hcost,zbJ N c.Out (by omega) (by omega) (by omega) (by omega),z12,Bool.not_true]
        exact zkI N p e c (by omega) hA (zlF N p (by omega) hT) (by omega) g6 g7
      ·rw [show (decide ((0:Int)≠0) || decide ((20000:Int)<(((wB (ex 0) p.Code).M:Nat):Int)))=true by simp; omega]
       simp only [cond_true,hA,Option.bind_some]
end Go.Proofs.YtgjcniomhahgkaaGreatDoor
namespace Go.Abs
open Go.Sem Go.ChangeShapes Go.RowKit
theorem Meets.law {P:Program} {f:FuncId} {args:List Value} {H:List HA} (h:Meets P f args H (fun v G=>v = .bool true∧G=[])) {w:World} (hs:Sats w (fun _=>.no) H) :
  Calls P f args.toArray w fun e w'=>e = .returned (.bool true)∧Below w.heap.size w w':=by
 refine (h w (fun _=>.no) (fun _ _=>rfl) hs).mono fun e w' ⟨v,G,o',he,⟨hv,_⟩,_,ht,_⟩=>?_
 subst hv
 exact ⟨he,ht.os,ht.tape,ht.output,ht.size,fun k hk=>(ht.no k hk rfl).2⟩
theorem z79 {w:World} {a:Option Addr} {len cap es:Nat} {cells:List (List Value)} (hcl:cells.length=len) (h1:len≤cap) (h2:cap≤maxLen) (h3:a=none→cap=0) (hes:0<es)
    (he:∀ c∈cells,c.length=es) (hc:∀ x,a=some x→∀ i c,cells[i]? = some c→∀ j v,c[j]? = some v→w.cell? (x.add (i*es+j))=some v) :
    z2A w (fun b=>(fun _=>Ow.no:Own) b = .no) (.slice a len cap) es cells:=by
  refine ⟨a,cap,by rw [hcl],by omega,h2,h3,?_⟩
  intro i c hi
  have hlen:=he c (List.mem_of_getElem? hi)
  cases a with
  | none =>
    have:=(List.getElem?_eq_some_iff.1 hi).1
    have:=h3 rfl
    omega
  | some x =>
    have e0:c[0]? = some (c[0]'(by omega)):=List.getElem?_eq_getElem (by omega)
    have h:=hc x rfl i c hi 0 _ e0
    have hs0:=World.cell?_spot h
    have hb:x.block<w.heap.size:=by
      unfold World.cell? at h
      have e:(x.add (i*es+0)).block=x.block:=by unfold Addr.add; split <;> rfl
      rw [e] at h
      cases hh:w.heap[x.block]? with
      | none=>rw [hh] at h; simp at h
      | some o=>exact (Array.getElem?_eq_some_iff.1 hh).1
    obtain ⟨b,off,spot⟩:=x
    refine ⟨hlen,b,off,?_,hb,rfl,?_⟩
    · cases spot with
      | none=>rfl
      | some q =>
        exfalso
        have hi0:∀ i c,cells[i]? = some c→i=0:=by
          intro i c hi
          false_or_by_contra
          have hlen:=he c (List.mem_of_getElem? hi)
          have hi00:cells[0]? = some (cells[0]'(by have:=(List.getElem?_eq_some_iff.1 hi).1; omega)):=List.getElem?_eq_getElem _
          have hl0:=he _ (List.mem_of_getElem? hi00)
          have h:=hc _ rfl 0 _ hi00 0 _ (List.getElem?_eq_getElem (by omega))
          have:=World.cell?_spot h
          simp [Addr.add] at this
        have:=hi0 i c hi
        subst this
        simp [Addr.add] at hs0
    · intro j v hj
      have h':=hc _ rfl i c hi j v hj
      have hsp:=World.cell?_spot h'
      rw [← h']
      congr 1
      unfold Addr.add at hsp ⊢
      split
      · rename_i h0
        rw [if_pos h0] at hsp
        simp only at hsp
        rw [hsp]
        have:off+i*es+j=off:=by omega
        rw [this]
      · rw [Nat.add_assoc]
theorem zaS {w:World} {B:Nat→Prop} {es:Nat}:z2A w B (.slice none 0 0) es []:=⟨none,0,rfl,by simp,by unfold maxLen; omega,fun _=>rfl,fun i c h=>by simp at h⟩
end Go.Abs
namespace Go.Abs
open Go.Sem Go.ChangeShapes Go.RowKit
section
variable {H : Type} {enc : TypeId × Value → H} {P : Program} {w : World} {base : Nat} {sp : Nat → Bool} {held : Bool}
end
end Go.Abs
namespace Go.Abs
open Go.Sem Go.ChangeShapes Go.RowKit
section
variable {H : Type} {enc : TypeId × Value → H} {P : Program} {w : World} {base : Nat} {sp : Nat → Bool} {held : Bool}
def wfI (k:IntKind) (n:Int):Prop:=(Lit.int k n).wf=true
def Opens (enc:TypeId×Value→H) (P:Program) (w:World) (base:Nat) (sp:Nat→Bool) (held:Bool) (t:TypeId) {α:Type} (F:α→List Value) (wf:α→Prop):Prop:=
 ∀ (fuel:Nat) (cs:List Value) (x:DataW H×List MemPlace),DataW.trod enc P w base sp held fuel t cs=some x→∃ a,cs=F a∧wf a
theorem z8b {t:TypeId} {k:IntKind} (ht:P.underlying t=some (.int k)):Opens enc P w base sp held t (eInt k) (wfI k):=by
 intro fuel cs x h
 obtain ⟨n,hc,_,hw⟩:=DataW.trod_int ht h
 exact ⟨n,hc,hw⟩
end
end Go.Abs
namespace Go.Abs
open Go.Sem Go.ChangeShapes Go.RowKit
section
variable {H : Type} {enc : TypeId × Value → H} {P : Program} {w : World} {base : Nat} {sp : Nat → Bool} {held : Bool}
theorem zcp {t:TypeId} (ht:P.underlying t=some .string):Opens enc P w base sp held t eStr (fun l=>l.length≤maxLen):=by
 intro fuel cs x h
 obtain ⟨s,hc,_,hl⟩:=DataW.trod_string ht h
 exact ⟨s.data.toList,by rw [hc]; rfl,hl⟩
def noO:Own:=fun _=>.no
end
end Go.Abs
namespace Go.Abs
open Go.Sem Go.ChangeShapes Go.RowKit
theorem zck {P:Program} {w:World} {n:String} {d:DataW Unit}:∀ {l:List (String×DataW Unit)} {ps:List MemPlace},DataW.LaidVars P w l ps→(n,d)∈l→
    ∃ g t cs fuel p,P.globalNamed n=some g∧(P.globals[g]?).map (·.type)=some t∧w.var? P n=some cs∧DataW.trod (fun _=>()) P w 0 (fun _=>true) false fuel t cs.toList=some (d,p)
  | [],_,_,h=>by simp at h
  | (m, e) :: r, ps, ⟨g, t, cs, fuel, p, q, h1, h2, h3, h4, h5, _⟩, h => by
    rcases List.mem_cons.1 h with h | h
    · cases h; exact ⟨g,t,cs,fuel,p,h1,h2,h3,h4⟩
    · exact zck h5 h
theorem zid {P:Program} {w:World} {l:List (String×DataW Unit)} {name:String} {k:IntKind} {zs:List Int} {g t e:Nat} {n:Nat} (h:laidMet P l w) (hm:(name,Lib.tabData k zs)∈l)
  (hg:P.globalNamed name=some g) (hty:(P.globals[g]?).map (·.type)=some t) (ht:P.underlying t=some (.array n e)) (he:P.underlying e=some (.int k)) (hce:P.cellsOf e=1) (hct:P.cellsOf t=n):Lib.TabIs P w name k zs:=by
 obtain ⟨ps,hl,_⟩:=h
 obtain ⟨g',t',cs,fuel,p,hg',ht',hvar,hd⟩:=zck hl hm
 obtain rfl:=Option.some.inj (hg.symm.trans hg')
 obtain rfl:=Option.some.inj (hty.symm.trans ht')
 unfold Lib.TabIs
 rw [hvar,← Lib.cells_of_tab ht he hce hct hd]
section
variable {H : Type} {enc : TypeId × Value → H} {P : Program} {w : World} {base : Nat} {sp : Nat → Bool} {held : Bool}
end
end Go.Abs
namespace Go.Proofs.YtgjcniomhahgkaaGreatDoor
open Go.Abs Go.Sem Go.ChangeShapes Go.RowKit
set_option maxRecDepth 100000
section
variable {H : Type} {enc : TypeId × Value → H} {w : World} {base : Nat} {sp : Nat → Bool} {held : Bool}
theorem z8G {P:Program} {t e:TypeId} {es:Nat} {α:Type} {F:α→List Value} {q:α→DataW H→Prop} (ht:P.underlying t=some (.slice e)) (hce:P.cellsOf e=es) (hes:0<es) (hF:∀ a,(F a).length=es) {fuel:Nat}
    (ho:∀ m,m<fuel→∀ (cs:List Value) (x:DataW H×List MemPlace),DataW.trod enc P w base sp held m e cs=some x→∃ a,cs=F a∧q a x.1) {cs:List Value} {x:DataW H×List MemPlace} (h:DataW.trod enc P w base sp held fuel t cs=some x) :
    ∃ (v : Value) (l : List α), cs = [v] ∧ z2A w (fun b => (fun _ => Go.Abs.Ow.no : Go.Abs.Own) b = .no) v es (l.map F) ∧
      ((x.1 = .nil∧l=[])∨∃ ys rs,x.1 = .slice ys rs∧ys.length=l.length∧∀ (i:Nat) (a:α) (y:DataW H),l[i]? = some a→ys[i]? = some y→q a y):=by
  rcases DataW.trod_slice ht h with ⟨rfl,hx⟩ | ⟨a,len,cap,elems,rest,m,hfu,rfl,rfl,hb,hl,hm,hlen,hel',hsp,hns⟩
  · exact ⟨_,[],rfl,zaS,.inl ⟨by rw [hx],rfl⟩⟩
  · have each:∀ i,i<len→∃ d:α,(∀ y,elems[i]? = some y→q d y.1)∧∀ j v,(F d)[j]? = some v→w.cell? (a.add (i*es+j))=some v:=by
      intro i hi
      have h1:=hel' i hi
      rw [List.getElem?_eq_getElem (by omega),hce,Option.bind_eq_some_iff] at h1
      obtain ⟨cs',hcs,hy⟩:=h1
      obtain ⟨d,rfl,hd⟩:=ho m (by omega) _ _ hy
      refine ⟨d,fun y hy'=>?_,fun j v hj=>?_⟩
      · rw [List.getElem?_eq_getElem (by omega)] at hy'
        obtain rfl:=Option.some.inj hy'
        exact hd
      have hjlt:j<es:=by have:=(List.getElem?_eq_some_iff.1 hj).1; rw [hF] at this; omega
      have:=(World.cells?_some hcs).2.2 j hjlt
      rw [hj] at this
      rw [← this]
      congr 1
      unfold Addr.add
      by_cases e1:i*es=0
      · rw [if_pos e1]; simp [e1]
      · rw [if_neg e1,if_neg (by omega)]
        by_cases e2:j=0
        · simp [e2]
        · rw [if_neg e2]; simp [Nat.add_assoc]
    have hch:∃ l:List α,l.length=len∧∀ i d,l[i]? = some d→(∀ y,elems[i]? = some y→q d y.1)∧∀ j v,(F d)[j]? = some v→w.cell? (a.add (i*es+j))=some v:=by
      clear hel' hlen hsp hns hl h
      induction len with
      | zero=>exact ⟨[],rfl,by simp⟩
      | succ k ih =>
        obtain ⟨l,hl1,hl2⟩:=ih (fun i hi=>each i (by omega))
        obtain ⟨d,hd1,hd2⟩:=each k (by omega)
        refine ⟨l++[d],by simp [hl1],fun i d' hi=>?_⟩
        by_cases hik:i<k
        · rw [List.getElem?_append_left (by omega)] at hi; exact hl2 i d' hi
        · rw [List.getElem?_append_right (by omega)] at hi
          have:i=k:=by have:=(List.getElem?_eq_some_iff.1 hi).1; simp at this; omega
          subst this
          rw [hl1,Nat.sub_self] at hi
          simp at hi
          subst hi
          exact ⟨hd1,hd2⟩
    obtain ⟨l,hl1,hl2⟩:=hch
    refine ⟨_,l,rfl,?_,.inr ⟨_,_,rfl,by simp [hlen,hl1],fun i d y hi hy=>?_⟩⟩
    · refine z79 (by rw [List.length_map,hl1]) hl hm (by simp) hes ?_ ?_
      · intro c hc
        obtain ⟨d,hd,rfl⟩:=List.mem_map.1 hc
        exact hF d
      · intro x hx i c hi j v hj
        cases hx
        simp only [List.getElem?_map,Option.map_eq_some_iff] at hi
        obtain ⟨d,hd,rfl⟩:=hi
        exact (hl2 i d hd).2 j v hj
    · rw [List.getElem?_map,Option.map_eq_some_iff] at hy
      obtain ⟨z,hz,rfl⟩:=hy
      exact (hl2 i d hi).1 z hz
theorem zec {α:Type}:∀ (l:List α) (ys:List (DataW H)),ys.length=l.length→(∀ y:DataW H,1≤Rows.uptoBulk y)→l.length≤Rows.uptoBulkAll ys
 | [],_,_,_=>by simp
 | a::l,y::ys,h,h1=>by have:=zec l ys (by simpa using h) h1; have:=h1 y; simp only [List.length_cons,Rows.uptoBulkAll]; omega
theorem znz (d:DataW H):1≤Rows.uptoBulk d:=by
 cases d with
 | lit l=>cases l <;> simp [Rows.uptoBulk]
 | nil=>simp [Rows.uptoBulk]
 | ptr d=>simp [Rows.uptoBulk]
 | slice e r=>simp [Rows.uptoBulk]
 | agg p=>simp [Rows.uptoBulk]
 | iface t d=>simp [Rows.uptoBulk]
 | map e=>simp [Rows.uptoBulk]
 | held x=>simp [Rows.uptoBulk]
theorem zaJ {d:DataW H}:∀ {l:List (DataW H)},d∈l→Rows.uptoBulk d≤Rows.uptoBulkAll l
  | y :: l, h => by
    simp only [Rows.uptoBulkAll]
    rcases List.mem_cons.1 h with rfl | h
    · omega
    · have:=zaJ h; omega
theorem zak {G:Type}:∀ (l:List (zm×G)) (ys:List (DataW H)),ys.length=l.length→(∀ (i:Nat) (a:zm×G) (y:DataW H),l[i]? = some a→ys[i]? = some y→a.1.nodes≤Rows.uptoBulk y)→z2W (l.map (·.1))≤Rows.uptoBulkAll ys
  | [],_,_,_=>by simp [z2W]
  | a :: l, y :: ys, h, hq => by
    have h1:=zak l ys (by simpa using h) (fun i b z hb hz=>hq (i+1) b z (by simpa using hb) (by simpa using hz))
    have h2:=hq 0 a y rfl rfl
    simp only [List.map_cons,z2W,Rows.uptoBulkAll]; omega
theorem zaj {G:Type}:∀ (l:List (z7×G)) (ys:List (DataW H)),ys.length=l.length→(∀ (i:Nat) (a:z7×G) (y:DataW H),l[i]? = some a→ys[i]? = some y→a.1.nodes≤Rows.uptoBulk y)→z1y (l.map (·.1))≤Rows.uptoBulkAll ys
  | [],_,_,_=>by simp [z1y]
  | a :: l, y :: ys, h, hq => by
    have h1:=zaj l ys (by simpa using h) (fun i b z hb hz=>hq (i+1) b z (by simpa using hb) (by simpa using hz))
    have h2:=hq 0 a y rfl rfl
    simp only [List.map_cons,z1y,Rows.uptoBulkAll]; omega
end
end Go.Proofs.YtgjcniomhahgkaaGreatDoor
namespace Go.Proofs.YtgjcniomhahgkaaGreatDoor
open Go.Abs Go.Sem Go.ChangeShapes Go.RowKit
set_option maxRecDepth 100000
section
variable {H : Type} {enc : TypeId × Value → H} {w : World} {base : Nat} {sp : Nat → Bool} {held : Bool}
abbrev QE (w:World) (p:zm×Value) (d:DataW H):Prop:=p.1.nodes≤Rows.uptoBulk d∧∀ k,HsP (zE.S p.1 p.2) w noO k
abbrev QS (w:World) (p:z7×(Value×Value×Value)) (d:DataW H):Prop:=p.1.nodes≤Rows.uptoBulk d∧∀ k,HsP (zx.S p.1 p.2) w noO k
theorem argsE {fuel:Nat} (ih:∀ m,m<fuel→∀ (cs:List Value) (x:DataW H×List MemPlace),DataW.trod enc Tryz.prog w base sp held m 63 cs=some x→∃ p,cs=zE.F p.1 p.2∧QE w p x.1)
  {cs:List Value} {x:DataW H×List MemPlace} (h:DataW.trod enc Tryz.prog w base sp held fuel 61 cs=some x) :
  ∃ (v:Value) (l:List zm),cs=[v]∧z2W l+1≤Rows.uptoBulk x.1∧∀ k,(nro v zE l).p w noO k:=by
 obtain ⟨v,lg,e,s,b⟩:=z8G (α:=zm×Value) (F:=fun p=>zE.F p.1 p.2) (q:=QE w) (es:=6) Tryz.underlying61 (by kernel_rfl) (by decide) (fun _=>rfl) ih h
 refine ⟨v,lg.map (·.1),e,?_,fun k=>⟨⟨lg,rfl,s,fun p hp=>?_⟩,fun q=>by cases q⟩⟩
 ·rcases b with ⟨b1,rfl⟩ | ⟨ys,rs,b1,b2,b3⟩
  ·rw [b1]; simp [z2W,Rows.uptoBulk]
  ·have:=zak lg ys b2 (fun i a y hi hy=>(b3 i a y hi hy).1)
   rw [b1]; simp only [Rows.uptoBulk]; omega
 ·rcases b with ⟨b1,rfl⟩ | ⟨ys,rs,b1,b2,b3⟩
  ·cases hp
  ·obtain ⟨i,hi⟩:=List.getElem?_of_mem hp
   have hlt:=(List.getElem?_eq_some_iff.1 hi).1
   exact (b3 i p _ hi (List.getElem?_eq_getElem (by rw [b2]; exact hlt))).2 k
theorem zn6:∀ (fuel:Nat) (cs:List Value) (x:DataW H×List MemPlace),DataW.trod enc Tryz.prog w base sp held fuel 63 cs=some x→∃ p,cs=zE.F p.1 p.2∧QE w p x.1:=by
  intro fuel
  induction fuel using Nat.strongRecOn with
  | _ fuel ih=>
  intro cs x h
  obtain ⟨xs,n,hn,hx,hl,hlen,hf⟩:=DataW.trod_struct Tryz.underlying63 h
  have hl' : cs.length=6:=hl.trans (by kernel_rfl)
  have hx6:xs.length=6:=hlen
  have k3:Tryz.prog.cellsOf 3=1:=by kernel_rfl
  have k9:Tryz.prog.cellsOf 9=1:=by kernel_rfl
  have k61:Tryz.prog.cellsOf 61=1:=by kernel_rfl
  match cs,hl' with
  | [c0, c1, c2, c3, c4, c5], _ =>
    have f0:=hf 0 _ rfl
    have f1:=hf 1 _ rfl
    have f2:=hf 2 _ rfl
    have f3:=hf 3 _ rfl
    have f4:=hf 4 _ rfl
    have f5:=hf 5 _ rfl
    rw [List.getElem?_eq_getElem (show 0<xs.length by omega)] at f0
    rw [List.getElem?_eq_getElem (show 1<xs.length by omega)] at f1
    rw [List.getElem?_eq_getElem (show 2<xs.length by omega)] at f2
    rw [List.getElem?_eq_getElem (show 3<xs.length by omega)] at f3
    rw [List.getElem?_eq_getElem (show 4<xs.length by omega)] at f4
    rw [List.getElem?_eq_getElem (show 5<xs.length by omega)] at f5
    obtain ⟨a0,e0,w0⟩:=(z8b Tryz.underlying3) _ _ _ f0
    obtain ⟨a1,e1,w1⟩:=(z8b Tryz.underlying3) _ _ _ f1
    obtain ⟨a2,e2,w2⟩:=(z8b Tryz.underlying3) _ _ _ f2
    obtain ⟨a3,e3,w3⟩:=(z8b Tryz.underlying3) _ _ _ f3
    obtain ⟨a4,e4,w4⟩:=(zcp Tryz.underlying9) _ _ _ f4
    obtain ⟨v5,l5,e5,b5,s5⟩:=argsE (fun m hm=>ih m (by omega)) f5
    simp [k3,eInt] at e0 e1 e2 e3
    simp [k9,eStr] at e4
    simp [k61] at e5
    subst e0 e1 e2 e3 e4 e5
    refine ⟨(⟨a0,a1,a2,a3,a4,l5⟩,c5),rfl,?_,fun k h hh=>?_⟩
    · have hm:(xs[5]'(by omega)).1∈xs.map (·.1):=List.mem_map.2 ⟨_,List.getElem_mem _,rfl⟩
      have:=zaJ hm
      rw [hx]
      simp only [zm.nodes,Rows.uptoBulk]; omega
    · replace hh:=(congrArg (fun L=>h∈L) (TC.S_eq (T:=z6y) (⟨a0,a1,a2,a3,a4,l5⟩ : zm) c5)).mp hh
      simp only [z6y,List.nil_append,List.map_cons,List.map_nil,List.mem_cons,List.not_mem_nil,or_false] at hh
      subst hh
      exact s5 k
theorem zhl {fuel:Nat} (ih:∀ m,m<fuel→∀ (cs:List Value) (x:DataW H×List MemPlace),DataW.trod enc Tryz.prog w base sp held m 65 cs=some x→∃ p,cs=zx.F p.1 p.2∧QS w p x.1)
  {cs:List Value} {x:DataW H×List MemPlace} (h:DataW.trod enc Tryz.prog w base sp held fuel 23 cs=some x) :
  ∃ (v:Value) (l:List z7),cs=[v]∧z1y l+1≤Rows.uptoBulk x.1∧∀ k,(nro v zx l).p w noO k:=by
 obtain ⟨v,lg,e,s,b⟩:=z8G (α:=z7×(Value×Value×Value)) (F:=fun p=>zx.F p.1 p.2) (q:=QS w) (es:=12) Tryz.underlying23 (by kernel_rfl) (by decide) (fun _=>rfl) ih h
 refine ⟨v,lg.map (·.1),e,?_,fun k=>⟨⟨lg,rfl,s,fun p hp=>?_⟩,fun q=>by cases q⟩⟩
 ·rcases b with ⟨b1,rfl⟩ | ⟨ys,rs,b1,b2,b3⟩
  ·rw [b1]; simp [z1y,Rows.uptoBulk]
  ·have:=zaj lg ys b2 (fun i a y hi hy=>(b3 i a y hi hy).1)
   rw [b1]; simp only [Rows.uptoBulk]; omega
 ·rcases b with ⟨b1,rfl⟩ | ⟨ys,rs,b1,b2,b3⟩
  ·cases hp
  ·obtain ⟨i,hi⟩:=List.getElem?_of_mem hp
   have hlt:=(List.getElem?_eq_some_iff.1 hi).1
   exact (b3 i p _ hi (List.getElem?_eq_getElem (by rw [b2]; exact hlt))).2 k
theorem bulk3 (xs:List (DataW H)) (i j k:Nat) (hi:i<j) (hj:j<k) (hk:k<xs.length):Rows.uptoBulk (xs[i]'(by omega))+Rows.uptoBulk (xs[j]'(by omega))+Rows.uptoBulk xs[k]≤Rows.uptoBulkAll xs:=by
  have one:∀ (xs:List (DataW H)) (i:Nat) (h:i<xs.length),Rows.uptoBulk xs[i]≤Rows.uptoBulkAll xs:=fun xs i h=>zaJ (List.getElem_mem h)
  have two:∀ (xs:List (DataW H)) (i j:Nat) (hi:i<j) (h:j<xs.length),Rows.uptoBulk (xs[i]'(by omega))+Rows.uptoBulk xs[j]≤Rows.uptoBulkAll xs:=by
    intro xs
    induction xs with
    | nil=>intro i j hi h; simp at h
    | cons x r ih =>
      intro i j hi h
      cases j with
      | zero=>omega
      | succ j =>
        cases i with
        | zero=>have:=one r j (by simpa using h); simp only [List.getElem_cons_zero,List.getElem_cons_succ,Rows.uptoBulkAll]; omega
        | succ i=>have:=ih i j (by omega) (by simpa using h); simp only [List.getElem_cons_succ,Rows.uptoBulkAll]; omega
  induction xs generalizing i j k with
  | nil=>simp at hk
  | cons x r ih =>
    obtain ⟨j,rfl⟩ : ∃ j',j=j'+1:=⟨j - 1,by omega⟩
    obtain ⟨k,rfl⟩ : ∃ k',k=k'+1:=⟨k - 1,by omega⟩
    cases i with
    | zero=>have:=two r j k (by omega) (by simpa using hk); simp only [List.getElem_cons_zero,List.getElem_cons_succ,Rows.uptoBulkAll]; omega
    | succ i =>
      have:=ih i j k (by omega) (by omega) (by simpa using hk)
      simp only [List.getElem_cons_succ,Rows.uptoBulkAll]
      exact Nat.le_trans (this two) (Nat.le_add_left _ _)
theorem znV:∀ (fuel:Nat) (cs:List Value) (x:DataW H×List MemPlace),DataW.trod enc Tryz.prog w base sp held fuel 65 cs=some x→∃ p,cs=zx.F p.1 p.2∧QS w p x.1:=by
  intro fuel
  induction fuel using Nat.strongRecOn with
  | _ fuel ih=>
  intro cs x h
  obtain ⟨xs,n,hn,hx,hl,hlen,hf⟩:=DataW.trod_struct Tryz.underlying65 h
  have hl' : cs.length=12:=hl.trans (by kernel_rfl)
  have hx7:xs.length=7:=hlen
  have k3:Tryz.prog.cellsOf 3=1:=by kernel_rfl
  have k9:Tryz.prog.cellsOf 9=1:=by kernel_rfl
  have k23:Tryz.prog.cellsOf 23=1:=by kernel_rfl
  have k63:Tryz.prog.cellsOf 63=6:=by kernel_rfl
  match cs,hl' with
  | [c0, c1, c2, c3, x0, x1, x2, x3, x4, x5, c5, c6], _ =>
    have f0:=hf 0 _ rfl
    have f1:=hf 1 _ rfl
    have f2:=hf 2 _ rfl
    have f3:=hf 3 _ rfl
    have f4:=hf 4 _ rfl
    have f5:=hf 5 _ rfl
    have f6:=hf 6 _ rfl
    rw [List.getElem?_eq_getElem (show 0<xs.length by omega)] at f0
    rw [List.getElem?_eq_getElem (show 1<xs.length by omega)] at f1
    rw [List.getElem?_eq_getElem (show 2<xs.length by omega)] at f2
    rw [List.getElem?_eq_getElem (show 3<xs.length by omega)] at f3
    rw [List.getElem?_eq_getElem (show 4<xs.length by omega)] at f4
    rw [List.getElem?_eq_getElem (show 5<xs.length by omega)] at f5
    rw [List.getElem?_eq_getElem (show 6<xs.length by omega)] at f6
    obtain ⟨a0,e0,w0⟩:=(z8b Tryz.underlying3) _ _ _ f0
    obtain ⟨a1,e1,w1⟩:=(z8b Tryz.underlying3) _ _ _ f1
    obtain ⟨a2,e2,w2⟩:=(z8b Tryz.underlying3) _ _ _ f2
    obtain ⟨a3,e3,w3⟩:=(zcp Tryz.underlying9) _ _ _ f3
    obtain ⟨⟨a4,g4⟩,e4,b4,s4⟩:=zn6 _ _ _ f4
    obtain ⟨v5,l5,e5,b5,s5⟩:=zhl (fun m hm=>ih m (by omega)) f5
    obtain ⟨v6,l6,e6,b6,s6⟩:=zhl (fun m hm=>ih m (by omega)) f6
    simp [k3,eInt] at e0 e1 e2
    simp [k9,eStr] at e3
    simp [k63] at e4
    simp [k23] at e5 e6
    subst e0 e1 e2 e3 e5 e6
    have e4' : [x0,x1,x2,x3,x4,x5]=[.int .i64 a4.Op,.int .i64 a4.Type_,.int .i64 a4.N,.int .i64 a4.Slot,.string (bs a4.S),g4]:=e4
    simp only [List.cons.injEq,and_true] at e4'
    obtain ⟨rfl,rfl,rfl,rfl,rfl,rfl⟩:=e4'
    refine ⟨(⟨a0,a1,a2,a3,a4,l5,l6⟩,(x5,c5,c6)),rfl,?_,fun k h hh=>?_⟩
    · have:=bulk3 (xs.map (·.1)) 4 5 6 (by omega) (by omega) (by simp; omega)
      simp only [List.getElem_map] at this
      rw [hx]
      simp only [z7.nodes,Rows.uptoBulk] at b4 ⊢; omega
    · replace hh:=(congrArg (fun L=>h∈L) (TC.S_eq (T:=z7m) (⟨a0,a1,a2,a3,a4,l5,l6⟩ : z7) (x5,c5,c6))).mp hh
      simp only [z7m,List.map_cons,List.map_nil,List.cons_append,List.nil_append,List.mem_cons,List.not_mem_nil,or_false] at hh
      rcases hh with rfl | rfl | rfl
      · refine s4 k _ ?_
        refine (congrArg (fun L=>nro x5 zE a4.Args∈L) (TC.S_eq (T:=z6y) a4 x5)).mpr ?_
        exact List.mem_singleton.2 rfl
      · exact s5 k
      · exact s6 k
theorem znI {fuel:Nat} {cs:List Value} {x:DataW H×List MemPlace} (h:DataW.trod enc Tryz.prog w base sp held fuel 25 cs=some x) (hb:Rows.uptoBulk x.1≤1048576) :
    ∃ (p : zG) (v1 v2 : Value), cs = [.string (bs p.Name), v1, v2] ∧ z1y p.Code ≤ 1048576 ∧ p.Effects.length ≤ 1048576 ∧ p.Name.length ≤ 1048576 ∧ (∀ e ∈ p.Effects, wfI .i64 e) ∧
      (∀ k,(ro v1 1 (p.Effects.map (eInt .i64))).p w noO k)∧∀ k,(nro v2 zx p.Code).p w noO k:=by
  obtain ⟨xs,n,hn,hx,hl,hlen,hf⟩:=DataW.trod_struct Tryz.underlying25 h
  have hl' : cs.length=3:=hl.trans (by kernel_rfl)
  have hx3:xs.length=3:=hlen
  have k9:Tryz.prog.cellsOf 9=1:=by kernel_rfl
  have k22:Tryz.prog.cellsOf 22=1:=by kernel_rfl
  have k23:Tryz.prog.cellsOf 23=1:=by kernel_rfl
  match cs,hl' with
  | [c0, c1, c2], _ =>
    have f0:=hf 0 _ rfl
    have f1:=hf 1 _ rfl
    have f2:=hf 2 _ rfl
    rw [List.getElem?_eq_getElem (show 0<xs.length by omega)] at f0
    rw [List.getElem?_eq_getElem (show 1<xs.length by omega)] at f1
    rw [List.getElem?_eq_getElem (show 2<xs.length by omega)] at f2
    obtain ⟨q0,e0,y0,w0⟩:=DataW.trod_string Tryz.underlying9 f0
    obtain ⟨v1,l1,e1,s1,b1⟩:=z8G (F:=eInt .i64) (q:=fun a _=>wfI .i64 a) (es:=1) Tryz.underlying22 (by kernel_rfl) (by decide) (fun _=>rfl) (fun m hm cs x hh=>(z8b Tryz.underlying3) _ _ _ hh) f1
    obtain ⟨v2,l2,e2,b2,s2⟩:=zhl (fun m hm=>znV m) f2
    simp [k9] at e0
    simp [k22] at e1
    simp [k23] at e2
    subst e0 e1 e2
    have hbb:=bulk3 (xs.map (·.1)) 0 1 2 (by omega) (by omega) (by simp; omega)
    simp only [List.getElem_map] at hbb
    rw [hx] at hb
    simp only [Rows.uptoBulk] at hb
    rw [y0] at hbb
    simp only [Rows.uptoBulk] at hbb
    refine ⟨⟨q0.data.toList,l1,l2⟩,c1,c2,rfl,by simp only; omega,?_,by simp only; omega,?_,fun _=>s1,s2⟩
    · rcases b1 with ⟨_,rfl⟩ | ⟨ys,rs,d1,d2,_⟩
      · simp
      · have:=zec l1 ys d2 znz
        rw [d1] at hbb
        simp only [Rows.uptoBulk] at hbb ⊢; omega
    · intro e he
      rcases b1 with ⟨_,rfl⟩ | ⟨ys,rs,d1,d2,d3⟩
      · cases he
      · obtain ⟨i,hi⟩:=List.getElem?_of_mem he
        have hlt:=(List.getElem?_eq_some_iff.1 hi).1
        exact d3 i e _ hi (List.getElem?_eq_getElem (by rw [d2]; exact hlt))
theorem znh {fuel:Nat} {cs:List Value} {x:DataW H×List MemPlace} (h:DataW.trod enc Tryz.prog w base sp held fuel 58 cs=some x):∃ a:zp,cs=zp.enc a∧True:=by
  obtain ⟨xs,n,hn,hx,hl,hlen,hf⟩:=DataW.trod_struct Tryz.underlying58 h
  have hl' : cs.length=2:=hl.trans (by kernel_rfl)
  have hx2:xs.length=2:=hlen
  have k9:Tryz.prog.cellsOf 9=1:=by kernel_rfl
  match cs,hl' with
  | [c0, c1], _ =>
    have f0:=hf 0 _ rfl
    have f1:=hf 1 _ rfl
    rw [List.getElem?_eq_getElem (show 0<xs.length by omega)] at f0
    rw [List.getElem?_eq_getElem (show 1<xs.length by omega)] at f1
    obtain ⟨a0,e0,w0⟩:=(zcp Tryz.underlying9) _ _ _ f0
    obtain ⟨a1,e1,w1⟩:=(zcp Tryz.underlying9) _ _ _ f1
    simp [k9,eStr] at e0 e1
    subst e0 e1
    exact ⟨⟨a0,a1⟩,rfl,trivial⟩
theorem zn4 {fuel:Nat} {cs:List Value} {x:DataW H×List MemPlace} (h:DataW.trod enc Tryz.prog w base sp held fuel 28 cs=some x) :
    ∃ (e:zP) (v:Value),cs=[v,.int .i64 e.Status]∧∀ k,(ro v 2 (e.Headers.map zp.enc)).p w noO k:=by
  obtain ⟨xs,n,hn,hx,hl,hlen,hf⟩:=DataW.trod_struct Tryz.underlying28 h
  have hl' : cs.length=2:=hl.trans (by kernel_rfl)
  have hx2:xs.length=2:=hlen
  have k3:Tryz.prog.cellsOf 3=1:=by kernel_rfl
  have k26:Tryz.prog.cellsOf 26=1:=by kernel_rfl
  match cs,hl' with
  | [c0, c1], _ =>
    have f0:=hf 0 _ rfl
    have f1:=hf 1 _ rfl
    rw [List.getElem?_eq_getElem (show 0<xs.length by omega)] at f0
    rw [List.getElem?_eq_getElem (show 1<xs.length by omega)] at f1
    obtain ⟨v0,l0,e0,s0,b0⟩:=z8G (F:=zp.enc) (q:=fun _ _=>True) (es:=2) Tryz.underlying26 (by kernel_rfl) (by decide) (fun a=>(zp.enc_ok a).1) (fun m hm cs x hh=>znh hh) f0
    obtain ⟨a1,e1,w1⟩:=(z8b Tryz.underlying3) _ _ _ f1
    simp [k3,eInt] at e1
    simp [k26] at e0
    subst e0 e1
    exact ⟨⟨l0,a1⟩,c0,rfl,fun _=>s0⟩
end
end Go.Proofs.YtgjcniomhahgkaaGreatDoor
namespace Go.Proofs.YtgjcniomhahgkaaGreatDoor
open Go.Abs
noncomputable def low:Nat:=(World.holding Tryz.prog default ⟨#[],#[],[]⟩).heap.size
noncomputable def zaH (os:Os):World:=
 let w0:=World.holding Tryz.prog os ⟨#[.cells #[.string ⟨#[105,110,118,97,108,105,100,32,115,121,110,116,97,120]⟩] 417,.cells #[.string ⟨#[118,97,108,117,101,32,111,117,116,32,111,102,32,114,97,110,103,101]⟩] 417,.cells #[.slice (some ⟨low+3,0,none⟩) 7 7,.slice none 0 0,.int .i64 2] 380,.cells (([9,13,1,32,133,101,160,5760,5600,8192,8202,1,8232,8233,1,8239,8287,48,12288,12288,1]:List Int).map (Value.int .u16)).toArray 383],#[],[]⟩
 { w0 with heap:=(((((((w0.heap.modify 0 fun
  | .cells _ t frozen=>.cells (([0,0,0,0,0,0,0,0,0,1,1,1,1,1,0,0,0,0,0,0,0,0,0,0,0,0,0,0,0,0,0,0,1,0,0,0,0,0,0,0,0,0,0,0,0,0,0,0,0,0,0,0,0,0,0,0,0,0,0,0,0,0,0,0,0,0,0,0,0,0,0,0,0,0,0,0,0,0,0,0,0,0,0,0,0,0,0,0,0,0,0,0,0,0,0,0,0,0,0,0,0,0,0,0,0,0,0,0,0,0,0,0,0,0,0,0,0,0,0,0,0,0,0,0,0,0,0,0,0,0,0,0,0,0,0,0,0,0,0,0,0,0,0,0,0,0,0,0,0,0,0,0,0,0,0,0,0,0,0,0,0,0,0,0,0,0,0,0,0,0,0,0,0,0,0,0,0,0,0,0,0,0,0,0,0,0,0,0,0,0,0,0,0,0,0,0,0,0,0,0,0,0,0,0,0,0,0,0,0,0,0,0,0,0,0,0,0,0,0,0,0,0,0,0,0,0,0,0,0,0,0,0,0,0,0,0,0,0,0,0,0,0,0,0,0,0,0,0,0,0,0,0,0,0,0,0]:List Int).map (Value.int .u8)).toArray t frozen
  | o=>o).modify 5 fun
  | .cells _ t frozen=>.cells (([1,10,100,1000,10000,100000,1000000,10000000,100000000,1000000000,10000000000,100000000000,1000000000000,10000000000000,100000000000000,1000000000000000,10000000000000000,100000000000000000,1000000000000000000,10000000000000000000]:List Int).map (Value.int .u64)).toArray t frozen
  | o=>o).modify 6 fun
  | .cells _ t frozen=>.cells (([0,1,28,2,29,14,24,3,30,22,20,15,25,17,4,8,31,27,13,23,21,19,16,7,26,12,18,6,11,5,10,9]:List Int).map (Value.int .u8)).toArray t frozen
  | o=>o).modify 7 fun
  | .cells _ t frozen=>.cells (([0,1,56,2,57,49,28,3,61,58,42,50,38,29,17,4,62,47,59,36,45,43,51,22,53,39,33,30,24,18,12,5,63,55,48,27,60,41,37,16,46,35,44,21,52,32,23,11,54,26,40,15,34,20,31,10,25,14,19,9,13,8,7,6]:List Int).map (Value.int .u8)).toArray t frozen
  | o=>o).modify 3 fun
  | .cells _ t frozen=>.cells #[.iface 415 (.pointer (some ⟨low,0,none⟩))] t frozen
  | o=>o).modify 4 fun
  | .cells _ t frozen=>.cells #[.iface 415 (.pointer (some ⟨low+1,0,none⟩))] t frozen
  | o=>o).modify 2 fun
  | .cells _ t frozen=>.cells #[.pointer (some ⟨low+2,0,none⟩)] t frozen
  | o=>o) }
def laidL:List (String×DataW Unit):=[("math/bits.deBruijn32tab",Rows.laid_math_bits_deBruijn32tab),("math/bits.deBruijn64tab",Rows.laid_math_bits_deBruijn64tab),("internal/strconv.uint64pow10",Rows.laid_internal_strconv_uint64pow10),("strconv.ErrRange",Rows.laid_strconv_ErrRange),("strconv.ErrSyntax",Rows.laid_strconv_ErrSyntax),("unicode.White_Space",Rows.laid_unicode_White_Space),("strings.asciiSpace",Rows.laid_strings_asciiSpace)]
theorem zbb (os:Os) (args:Array Value):laidMet Tryz.prog laidL ((zaH os).forCall (fun _ _=>0) ⟨#[],args,[]⟩).memory:=
 laidMet_of_run' 8 (by kernel_rfl) (by kernel_rfl)
theorem znc {W:World} (h:laidMet Tryz.prog laidL W):GlobL W where
 space:=⟨0,gSpc,by decide,zid h (List.mem_cons_of_mem _ (List.mem_cons_of_mem _ (List.mem_cons_of_mem _ (List.mem_cons_of_mem _ (List.mem_cons_of_mem _ (List.mem_cons_of_mem _ (List.mem_cons.2 (.inl (by kernel_rfl))))))))) gSpc (t:=354) (by kernel_rfl) Tryz.underlying354 Tryz.underlying5 (by kernel_rfl) (by kernel_rfl)⟩
theorem zfN {W:World} (h:laidMet Tryz.prog laidL W):1≤W.heap.size:=by
 obtain ⟨ps,hl,_⟩:=h
 obtain ⟨g,t,cs,fuel,p,e1,_,e3,_⟩:=zck (n:= "strings.asciiSpace") hl (List.mem_cons_of_mem _ (List.mem_cons_of_mem _ (List.mem_cons_of_mem _ (List.mem_cons_of_mem _ (List.mem_cons_of_mem _ (List.mem_cons_of_mem _ (List.mem_cons_self ..)))))))
 obtain rfl:=Option.some.inj (gSpc.symm.trans e1)
 unfold World.var? at e3
 rw [gSpc] at e3
 simp only [Option.bind_some] at e3
 by_cases h:0<W.heap.size
 ·omega
 ·rw [Array.getElem?_eq_none (by omega)] at e3; simp at e3
theorem globP {W:World} (h:laidMet Tryz.prog laidL W) (hs:W.ShapedOpen Tryz.prog) (k:Nat):globA.p W noO k:=⟨zfN h,fun _ _=>rfl,znc h⟩
end Go.Proofs.YtgjcniomhahgkaaGreatDoor
namespace Go.Proofs.YtgjcniomhahgkaaGreatDoor.lawC3
open Go.Abs Go.ChangeShapes Go.WideShapes Go.ChangeAt Go.RowKit
open Go.ChangeMaps (open_string shut_string)
theorem own:ownKnob Tryz.prog.godebug=none:=by kernel_rfl
theorem zea:laidOutB Tryz.prog=true:=by kernel_rfl
theorem reads (os:Os) {H:Type} (enc:TypeId×Value→H):∃ places,DataW.whole enc Tryz.prog ((zaH os).forCall (fun _ _=>0) ⟨#[],#[.agg #[.string ByteArray.empty,.slice none 0 0,.slice none 0 0],.agg #[.slice none 0 0,.int .i64 0]],[]⟩).memory Tryz.f3.params.toList Rows.topEffectsBoundRunsSpec.vars false (#[.agg #[.string ByteArray.empty,.slice none 0 0,.slice none 0 0],.agg #[.slice none 0 0,.int .i64 0]]:Array Value).toList 8=some ([.agg [.lit (.string []),.nil,.nil],.agg [.nil,.lit (.int .i64 0)]],[],places):=
 ⟨[],by kernel_rfl⟩
theorem zib:(Rows.topEffectsBoundRunsUptoRow.inPlace == Tryz.prog.inPlace 3)=true:=by kernel_rfl
theorem zcV:(Rows.topEffectsBoundRunsUptoRow.unfollowed == Tryz.prog.unfollowed 3)=true:=by kernel_rfl
theorem zfK:(Rows.topEffectsBoundRunsUptoRow.recurses == Tryz.prog.recurses 3)=true:=by kernel_rfl
theorem znr:(Rows.topEffectsBoundRunsUptoRow.named == Tryz.prog.varsNamed 3)=true:=by kernel_rfl
theorem facts:joinedFacts Tryz.prog 3 Tryz.f3 (Rows.OpenSpec.upto Rows.topEffectsBoundRunsSpec).bare Rows.topEffectsBoundRunsUptoRow=true:=by
 unfold joinedFacts
 rw [zea,zib,zcV,zfK,znr]
 kernel_rfl
theorem plain (f:FuncId) (fn:Func) (hf:Tryz.pinned.checked.prog.funcNamed "weirgate/weirgatetop.TopEffectsBoundRuns" = some f) (hfn:Tryz.pinned.checked.prog.funcs[f]? = some fn) :
  true=Tryz.pinned.checked.prog.looks []∧∀ (j:Nat) t,fn.params[j]? = some t→Tryz.pinned.checked.prog.wantsStandIn t=false:=by
 obtain rfl:f=3:=Option.some.inj ((show Tryz.prog.funcNamed "weirgate/weirgatetop.TopEffectsBoundRuns" = some 3 by kernel_rfl).symm.trans hf) |>.symm
 obtain rfl:fn=Tryz.f3:=(Option.some.inj (Tryz.func3.symm.trans hfn)).symm
 refine ⟨by kernel_rfl,fun j t ht=>?_⟩
 rw [Tryz.params3] at ht
 have hm:=Array.mem_of_getElem? ht
 simp only [List.mem_toArray,List.mem_cons,List.not_mem_nil,or_false] at hm
 rcases hm with rfl | rfl
 ·exact (show Tryz.prog.wantsStandIn 25=false by kernel_rfl)
 ·exact (show Tryz.prog.wantsStandIn 28=false by kernel_rfl)
end Go.Proofs.YtgjcniomhahgkaaGreatDoor.lawC3
