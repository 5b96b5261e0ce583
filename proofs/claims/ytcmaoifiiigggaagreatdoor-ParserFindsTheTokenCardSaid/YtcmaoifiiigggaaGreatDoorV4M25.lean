/-
  Texts that stand side by side: Pz, P4, AbsEnd, AbsEnd3, AbsEnd4, AbsEnd5, AbsLaid, LaidPs.
-/
import Derived.Test.YtcmaoifiiigggaaGreatDoorFq
import Derived.Test.YtcmaoifiiigggaaGreatDoorV4M23
import Derived.Test.YtcmaoifiiigggaaGreatDoorV4W4
import Derived.Test.YtcmaoifiiigggaaGreatDoorM0
import Derived.WalkKit
import Derived.ProofKit
import Derived.OpenShut
import Derived.ShutString
import Derived.ChangeOld
import Derived.Below
import Derived.SliceStrings
import Derived.Test.YtcmaoifiiigggaaGreatDoorM1
import Derived.ChangeArms
import Derived.Test.YtcmaoifiiigggaaGreatDoorM2
import Derived.LaidHandle
import Derived.Deep.DeepHandedRow
import Derived.Test.YtcmaoifiiigggaaGreatDoorRows
import Derived.Test.YtcmaoifiiigggaaGreatDoorChecked
set_option linter.unusedSimpArgs false
set_option linter.unusedVariables false
namespace Go.Proofs.YtcmaoifiiigggaaGreatDoor
open Go.Abs
set_option maxRecDepth 100000
theorem sane (n:Nat):z1X (n+40)=some true:=by kernel_rfl
end Go.Proofs.YtcmaoifiiigggaaGreatDoor
namespace Go.Proofs.YtcmaoifiiigggaaGreatDoor
open Go.Abs Go.Ps Go.Lex
theorem zmN (s:List UInt8) {n:Nat} (hn:1000000<n):z39 n s=some (z4K 65537 s):=zjY s hn (by omega)
theorem zi1 {s more:List UInt8} {r7:zG×z11} {r15:List z6×z11} {k:Nat} (hl:r15.1.length≤100000) {m:Nat} (hm:m≤r15.1.length) (hne:∀ (i:Nat) (h:i<m),(r15.1[i]'(by omega)).At≠r7.2.At):∀ (n i:Nat),i≤m→r15.1.length - i<n→
    ∃ n',r15.1.length - m<n'∧iter (z2g k s more r7 r15) n (i:Int)=iter (z2g k s more r7 r15) n' (m:Int)
  | 0,_,_,h=>absurd h (Nat.not_lt_zero _)
  | n + 1, i, hi, hn => by
    by_cases h:i=m
    · subst h; exact ⟨n+1,hn,rfl⟩
    · have hlt:i<m:=by omega
      have hlt' : i<r15.1.length:=by omega
      obtain ⟨n',h1,h2⟩:=zi1 hl hm hne n (i+1) hlt (by omega)
      refine ⟨n',h1,?_⟩
      rw [z4f (s':=((i+1:Nat):Int))]
      · exact h2
      · unfold z2g
        have:=hne i hlt
        simp only [Int.ofNat_lt,hlt',decide_true,cond_true,z5t hlt',ne_eq,this,not_false_eq_true,zdc (j:=i) (by omega)]
theorem law4 (s more:List UInt8) (_:s.length≤maxLen) (_:more.length≤maxLen):∃ m,z5A m s more=some true:=by
  obtain ⟨n,hn,hsane⟩ : ∃ n,1000000<n∧z1X n=some true:=⟨2000000+40,by omega,sane _⟩
  refine ⟨n,?_⟩
  unfold z5A
  rw [hsane]
  by_cases hbig:1000<s.length∨200<more.length
  · have:(decide (1000<(s.length:Int)) || decide (200<(more.length:Int)))=true:=by
      rcases hbig with h | h
      · rw [decide_eq_true (by omega)]; rfl
      · rw [decide_eq_true (p:=200<(more.length:Int)) (by omega),Bool.or_true]
    rw [this]; rfl
  have hb1:s.length≤1000:=by omega
  have hb2:more.length≤200:=by omega
  rw [decide_eq_false (p:=1000<(s.length:Int)) (by omega),decide_eq_false (p:=200<(more.length:Int)) (by omega)]
  rw [zmN s hn,zf4 s (by omega) n (by omega),zf4 more (by omega) n (by omega)]
  simp only [ob,Bool.or_self,cond_false]
  by_cases h1:(z4K 65537 s).2.E≠180
  · simp only [h1,decide_true,Bool.true_or,cond_true,ne_eq,not_false_eq_true]
  by_cases h2:(tokR s).2.E≠0
  · simp only [h2,decide_true,Bool.true_or,Bool.or_true,cond_true,ne_eq,not_false_eq_true]
  by_cases h3:(tokR more).2.E≠0
  · simp only [h3,decide_true,Bool.true_or,Bool.or_true,cond_true,ne_eq,not_false_eq_true]
  simp only [h1,h2,h3,decide_false,Bool.or_self,cond_false]
  have h1' : (z4K 65537 s).2.E=180:=by omega
  have h2' : (tokR s).2.E=0:=by omega
  have h3' : (tokR more).2.E=0:=by omega
  obtain ⟨j,hj,hP,hrun,hdeep⟩:=zo5 h1' h2'
  have hTl:=zb4 s
  rcases Nat.lt_or_ge j (tokR s).1.length with hlt | hge
  · have hat:(z4K 65537 s).2.At=(tokR s).1[j].At:=by
      rw [hP]; unfold eA; rw [List.getElem?_eq_getElem hlt]
    obtain ⟨n',hn',e⟩:=zi1 (k:=n) (s:=s) (more:=more) (r7:=z4K 65537 s) (r15:=tokR s) (by omega) hj (fun i hi=>by rw [hat]; exact Int.ne_of_lt (zsH h2' hi hlt)) n 0 (Nat.zero_le _) (by omega)
    have e' : iter (z2g n s more (z4K 65537 s) (tokR s)) n 0=_:=e
    rw [e']
    obtain ⟨k,rfl⟩ : ∃ k,n'=k+1:=⟨n' - 1,by omega⟩
    rw [z1z (r:=.stop true)]
    · rfl
    obtain ⟨p,r,M,a1,a2,a3,a4,a5⟩:=zpE h2' h3' hlt
    have hsl:=congrArg List.length a1
    simp only [List.length_append] at hsl
    have hwl:(tokR s).1[j].S.length≤1000:=by
      have:(wr (tokR s).1[j]).length≤1000:=by omega
      have h4:(tokR s).1[j].S.length≤(wr (tokR s).1[j]).length:=by
        unfold wr
        split
        · simp only [List.length_append,zdC]; omega
        · exact Nat.le_refl _
      omega
    have htake:((tokR s).1.take (j+1)).drop j=[(tokR s).1[j]]:=by
      rw [zaM hlt,List.drop_left' (by simp; omega)]
    have htx:z8n n [(tokR s).1[j]]=some (wr (tokR s).1[j],0):=by
      rw [zkh [(tokR s).1[j]] (by simp) (fun t ht=>by rw [List.mem_singleton.1 ht]; omega) n (by omega),zl6 a3 (by omega)]
    have hst:s.take p.length=p:=by conv=>lhs; rw [a1]; rw [List.take_left]
    have hX:(z4K 65537 (((p++wr (tokR s).1[j])++[32])++more)).2=(z4K 65537 s).2∨(z4K 65537 (((p++wr (tokR s).1[j])++[32])++more)).2.E=2:=by
      rcases zkP (N:=65537) (by simp only [List.length_append,List.length_cons,List.length_nil]; omega) a5 with h4 | ⟨_,h4⟩
      · exact .inr h4
      refine .inl ?_
      have e1:(tokR s).1.map tk=((tokR s).1.take j).map tk++tk (tokR s).1[j]::((tokR s).1.drop (j+1)).map tk:=by
        rw [← List.map_cons,← List.map_append,← List.drop_eq_getElem_cons hlt,List.take_append_drop]
      have e2:((tokR s).1.take (j+1)++M).map tk=((tokR s).1.take j).map tk++tk (tokR s).1[j]::M.map tk:=by
        rw [zaM hlt]; simp only [List.map_append,List.map_cons,List.map_nil,List.append_assoc,List.cons_append,List.nil_append]
      have e3:(srcP 65537).run 0 (((tokR s).1.take j).map tk++tk (tokR s).1[j]::((tokR s).1.drop (j+1)).map tk) = .bad j (tk (tokR s).1[j]::((tokR s).1.drop (j+1)).map tk):=by
        rw [← e1]
        refine (show _=run' (tokR s).1 (srcP 65537) 0 from rfl).trans (hrun.trans ?_)
        rw [ze8 (List.getElem?_eq_getElem hlt)]; rfl
      have e4:=zgN _ _ (M.map tk) _ _ _ _ e3
      rw [e2,e4] at h4
      dsimp only at h4
      rw [h4,hP]
      unfold eA
      rw [List.getElem?_append_left (by simp; omega),List.getElem?_take]
      simp [List.getElem?_eq_getElem hlt]
    have hY:(z4K 65537 p).2.E=0∨((z4K 65537 p).2.E=180∧(z4K 65537 p).2.At=(z4K 65537 s).2.At):=by
      have e1:(tokR s).1.map tk=((tokR s).1.take j).map tk++tk (tokR s).1[j]::((tokR s).1.drop (j+1)).map tk:=by
        rw [← List.map_cons,← List.map_append,← List.drop_eq_getElem_cons hlt,List.take_append_drop]
      have e3:(srcP 65537).run 0 (((tokR s).1.take j).map tk++tk (tokR s).1[j]::((tokR s).1.drop (j+1)).map tk) = .bad j (tk (tokR s).1[j]::((tokR s).1.drop (j+1)).map tk):=by
        rw [← e1]
        refine (show _=run' (tokR s).1 (srcP 65537) 0 from rfl).trans (hrun.trans ?_)
        rw [ze8 (List.getElem?_eq_getElem hlt)]; rfl
      have hd:deepT (((tokR s).1.take j).map tk) 0 0 = -1:=by
        rw [zbZ,e1] at hdeep
        exact zlW _ _ _ _ hdeep
      have h4:(z4K 65537 p).2.E≠2:=by
        unfold z4K outL
        rw [if_neg (by omega)]
        unfold outR
        rw [a4,if_neg (show ¬((0:Int)≠0) by decide),zbZ,hd,if_neg (by decide)]
        cases run' (List.take j (tokR s).1) (srcP 65537) 0 with
        | bad i r=>show ((180:Int))≠2; decide
        | ok a i r =>
          dsimp only
          split
          · show ((180:Int))≠2; decide
          · show ((0:Int))≠2; decide
      rcases zkP (N:=65537) (by omega) a4 with h5 | ⟨_,h5⟩
      · exact absurd h5 h4
      rcases zdM _ _ _ _ _ _ e3 with ⟨a,k,q,h6⟩ | ⟨k,h6⟩
      · rw [h6] at h5
        dsimp only at h5
        rw [h5]; exact .inl rfl
      · rw [h6] at h5
        dsimp only at h5
        rw [h5]
        refine .inr ⟨rfl,?_⟩
        have h7:=z2q (l:=(tokR s).1.take j) (srcP 65537) (j:=0) (Nat.zero_le _)
        rw [show run' ((tokR s).1.take j) (srcP 65537) 0 = .bad k [] from h6] at h7
        obtain ⟨_,h8,h9⟩:=h7
        have h10:((tokR s).1.take j).length≤k:=by
          rcases Nat.lt_or_ge k ((tokR s).1.take j).length with h | h
          · rw [ze8 (List.getElem?_eq_getElem h)] at h9; cases h9
          · exact h
        unfold eA
        rw [List.getElem?_eq_none h10,hat,a2]
    unfold z2g
    simp only [Int.ofNat_lt,hlt,decide_true,cond_true,z5t hlt,hat,ne_eq,not_true_eq_false,decide_false,cond_false,zdc (j:=j) (by omega),Int.toNat_natCast,htake,htx,ob]
    rw [z1n (by omega),a2]
    simp only [Int.toNat_natCast,hst]
    rw [z1n (by omega),z1n (by omega),z1n (by simp only [List.length_append,List.length_cons,List.length_nil]; omega),z1n (by simp only [List.length_append,List.length_cons,List.length_nil]; omega),zmN _ hn,zmN p hn]
    simp only [ob]
    rw [z1n (by omega),hsane]
    simp only [ob,Bool.true_and]
    have hb1:(decide ((z4K 65537 (((p++wr (tokR s).1[j])++[32])++more)).2.At=(p.length:Int)) && decide ((z4K 65537 (((p++wr (tokR s).1[j])++[32])++more)).2.E=(z4K 65537 s).2.E) || decide ((z4K 65537 (((p++wr (tokR s).1[j])++[32])++more)).2.E=2))=true:=by
      rcases hX with h | h
      · rw [h,hat,a2]; simp
      · rw [h]; simp
    have hb2:(decide ((z4K 65537 p).2.E=0) || (decide ((z4K 65537 p).2.E=180) && decide ((z4K 65537 p).2.At=(p.length:Int))))=true:=by
      rcases hY with h | ⟨h,h'⟩
      · rw [h]; rfl
      · rw [h,h',hat,a2]; simp
    rw [hb1,hb2]
    rfl
  · have hj' : j=(tokR s).1.length:=by omega
    have hat:(z4K 65537 s).2.At=(s.length:Int):=by
      rw [hP]; unfold eA; rw [List.getElem?_eq_none hge]
    obtain ⟨n',hn',e⟩:=zi1 (k:=n) (s:=s) (more:=more) (r7:=z4K 65537 s) (r15:=tokR s) (by omega) (Nat.le_refl _) (fun i hi=>by rw [hat]; have:=zsI h2' hi; omega) n 0 (Nat.zero_le _) (by omega)
    have e' : iter (z2g n s more (z4K 65537 s) (tokR s)) n 0=_:=e
    rw [e']
    obtain ⟨k,rfl⟩ : ∃ k,n'=k+1:=⟨n' - 1,by omega⟩
    rw [z1z (r:=.go ())]
    · simp only [bJ,bindJ,hat,decide_true,Bool.and_true]
    · unfold z2g
      simp only [Int.lt_irrefl,decide_false,cond_false]
end Go.Proofs.YtcmaoifiiigggaaGreatDoor
namespace Go.Abs
open Go.Sem Go.ChangeShapes Go.RowKit
theorem Meets.law {P:Program} {f:FuncId} {args:List Value} {H:List HA} (h:Meets P f args H (fun v G=>v = .bool true∧G=[])) {w:World} (hs:Sats w (fun _=>.no) H) :
  Calls P f args.toArray w fun e w'=>e = .returned (.bool true)∧Below w.heap.size w w':=by
 refine (h w (fun _=>.no) (fun _ _=>rfl) hs).mono fun e w' ⟨v,G,o',he,⟨hv,_⟩,_,ht,_⟩=>?_
 subst hv
 exact ⟨he,ht.os,ht.tape,ht.output,ht.size,fun k hk=>(ht.no k hk rfl).2⟩
end Go.Abs
namespace Go.Abs
open Go.Sem Go.ChangeShapes Go.RowKit
section
variable {H : Type} {enc : TypeId × Value → H} {P : Program} {w : World} {base : Nat} {sp : Nat → Bool} {held : Bool}
end
end Go.Abs
namespace Go.Abs
open Go.Sem Go.ChangeShapes Go.RowKit
section
variable {H : Type} {enc : TypeId × Value → H} {P : Program} {w : World} {base : Nat} {sp : Nat → Bool} {held : Bool}
def Opens (enc:TypeId×Value→H) (P:Program) (w:World) (base:Nat) (sp:Nat→Bool) (held:Bool) (t:TypeId) {α:Type} (F:α→List Value) (wf:α→Prop):Prop:=
 ∀ (fuel:Nat) (cs:List Value) (x:DataW H×List MemPlace),DataW.trod enc P w base sp held fuel t cs=some x→∃ a,cs=F a∧wf a
end
end Go.Abs
namespace Go.Abs
open Go.Sem Go.ChangeShapes Go.RowKit
section
variable {H : Type} {enc : TypeId × Value → H} {P : Program} {w : World} {base : Nat} {sp : Nat → Bool} {held : Bool}
theorem zhz {t:TypeId} (ht:P.underlying t=some .string):Opens enc P w base sp held t eStr (fun l=>l.length≤maxLen):=by
 intro fuel cs x h
 obtain ⟨s,hc,_,hl⟩:=DataW.trod_string ht h
 exact ⟨s.data.toList,by rw [hc]; rfl,hl⟩
def noO:Own:=fun _=>.no
end
end Go.Abs
namespace Go.Abs
open Go.Sem Go.ChangeShapes Go.RowKit
theorem zml {P:Program} {w:World} {n:String} {d:DataW Unit}:∀ {l:List (String×DataW Unit)} {ps:List MemPlace},DataW.LaidVars P w l ps→(n,d)∈l→
    ∃ g t cs fuel p,P.globalNamed n=some g∧(P.globals[g]?).map (·.type)=some t∧w.var? P n=some cs∧DataW.trod (fun _=>()) P w 0 (fun _=>true) false fuel t cs.toList=some (d,p)
  | [],_,_,h=>by simp at h
  | (m, e) :: r, ps, ⟨g, t, cs, fuel, p, q, h1, h2, h3, h4, h5, _⟩, h => by
    rcases List.mem_cons.1 h with h | h
    · cases h; exact ⟨g,t,cs,fuel,p,h1,h2,h3,h4⟩
    · exact zml h5 h
theorem zpU {P:Program} {w:World} {l:List (String×DataW Unit)} {name:String} {k:IntKind} {zs:List Int} {g t e:Nat} {n:Nat} (h:laidMet P l w) (hm:(name,Lib.tabData k zs)∈l)
  (hg:P.globalNamed name=some g) (hty:(P.globals[g]?).map (·.type)=some t) (ht:P.underlying t=some (.array n e)) (he:P.underlying e=some (.int k)) (hce:P.cellsOf e=1) (hct:P.cellsOf t=n):Lib.TabIs P w name k zs:=by
 obtain ⟨ps,hl,_⟩:=h
 obtain ⟨g',t',cs,fuel,p,hg',ht',hvar,hd⟩:=zml hl hm
 obtain rfl:=Option.some.inj (hg.symm.trans hg')
 obtain rfl:=Option.some.inj (hty.symm.trans ht')
 unfold Lib.TabIs
 rw [hvar,← Lib.cells_of_tab ht he hce hct hd]
section
variable {H : Type} {enc : TypeId × Value → H} {P : Program} {w : World} {base : Nat} {sp : Nat → Bool} {held : Bool}
end
end Go.Abs
namespace Go.Proofs.YtcmaoifiiigggaaGreatDoor
open Go.Abs
noncomputable def low:Nat:=(World.holding Tryz.prog default ⟨#[],#[],[]⟩).heap.size
noncomputable def z6L (os:Os):World:=
 let w0:=World.holding Tryz.prog os ⟨#[.cells #[.slice (some ⟨low+1,0,none⟩) 7 7,.slice none 0 0,.int .i64 2] 286,.cells (([9,13,1,32,133,101,160,5760,5600,8192,8202,1,8232,8233,1,8239,8287,48,12288,12288,1]:List Int).map (Value.int .u16)).toArray 289],#[],[]⟩
 { w0 with heap:=((w0.heap.modify 0 fun
  | .cells _ t frozen=>.cells (([0,0,0,0,0,0,0,0,0,1,1,1,1,1,0,0,0,0,0,0,0,0,0,0,0,0,0,0,0,0,0,0,1,0,0,0,0,0,0,0,0,0,0,0,0,0,0,0,0,0,0,0,0,0,0,0,0,0,0,0,0,0,0,0,0,0,0,0,0,0,0,0,0,0,0,0,0,0,0,0,0,0,0,0,0,0,0,0,0,0,0,0,0,0,0,0,0,0,0,0,0,0,0,0,0,0,0,0,0,0,0,0,0,0,0,0,0,0,0,0,0,0,0,0,0,0,0,0,0,0,0,0,0,0,0,0,0,0,0,0,0,0,0,0,0,0,0,0,0,0,0,0,0,0,0,0,0,0,0,0,0,0,0,0,0,0,0,0,0,0,0,0,0,0,0,0,0,0,0,0,0,0,0,0,0,0,0,0,0,0,0,0,0,0,0,0,0,0,0,0,0,0,0,0,0,0,0,0,0,0,0,0,0,0,0,0,0,0,0,0,0,0,0,0,0,0,0,0,0,0,0,0,0,0,0,0,0,0,0,0,0,0,0,0,0,0,0,0,0,0,0,0,0,0,0,0]:List Int).map (Value.int .u8)).toArray t frozen
  | o=>o).modify 1 fun
  | .cells _ t frozen=>.cells #[.pointer (some ⟨low,0,none⟩)] t frozen
  | o=>o) }
def laidL:List (String×DataW Unit):=[("unicode.White_Space",Rows.laid_unicode_White_Space),("strings.asciiSpace",Rows.laid_strings_asciiSpace)]
theorem z81 (os:Os) (args:Array Value):laidMet Tryz.prog laidL ((z6L os).forCall (fun _ _=>0) ⟨#[],args,[]⟩).memory:=
 laidMet_of_run' 8 (by kernel_rfl) (by kernel_rfl)
theorem ztO {W:World} (h:laidMet Tryz.prog laidL W):GlobL W where
 space:=⟨0,gSpc,by decide,zpU h (List.mem_cons_of_mem _ (List.mem_cons.2 (.inl (by kernel_rfl)))) gSpc (t:=242) (by kernel_rfl) Tryz.underlying242 Tryz.underlying5 (by kernel_rfl) (by kernel_rfl)⟩
theorem zly {W:World} (hs:W.ShapedOpen Tryz.prog):4≤W.heap.size:=by
 obtain ⟨o,_,h,_⟩:=hs.2 4 (of_decide_eq_true (by kernel_rfl)) (of_decide_eq_true (by kernel_rfl))
 have:=(Array.getElem?_eq_some_iff.1 h).1
 omega
theorem globP {W:World} (h:laidMet Tryz.prog laidL W) (hs:W.ShapedOpen Tryz.prog) (k:Nat):globA.p W noO k:=⟨zly hs,fun _ _=>rfl,ztO h⟩
end Go.Proofs.YtcmaoifiiigggaaGreatDoor
