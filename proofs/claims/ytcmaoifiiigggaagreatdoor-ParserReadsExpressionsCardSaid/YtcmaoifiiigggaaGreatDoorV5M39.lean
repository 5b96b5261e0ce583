/-
  Texts that stand side by side: Pz, P5, AbsEnd, AbsEnd3, AbsEnd4, AbsEnd5, AbsLaid, LaidPs.
-/
import Derived.Test.YtcmaoifiiigggaaGreatDoorFq
import Derived.Test.YtcmaoifiiigggaaGreatDoorV5M37
import Derived.Test.YtcmaoifiiigggaaGreatDoorV5W5
import Derived.Test.YtcmaoifiiigggaaGreatDoorM0
import Derived.WalkKit
import Derived.ProofKit
import Derived.OpenShut
import Derived.ShutString
import Derived.ChangeOld
import Derived.Below
import Derived.SliceStrings
import Derived.Test.YtcmaoifiiigggaaGreatDoorM1
import Derived.ChangeArms
import Derived.Test.YtcmaoifiiigggaaGreatDoorM2
import Derived.LaidHandle
import Derived.Deep.DeepHandedRow
import Derived.Test.YtcmaoifiiigggaaGreatDoorRows
import Derived.Test.YtcmaoifiiigggaaGreatDoorChecked
set_option linter.unusedSimpArgs false
set_option linter.unusedVariables false
namespace Go.Proofs.YtcmaoifiiigggaaGreatDoor
open Go.Abs
set_option maxRecDepth 100000
theorem sane (n:Nat):z1X (n+40)=some true:=by kernel_rfl
end Go.Proofs.YtcmaoifiiigggaaGreatDoor
namespace Go.Proofs.YtcmaoifiiigggaaGreatDoor
open Go.Abs Go.Ps Go.Lex
def exprR (N:Nat) (s:List UInt8):E×z11:=outL noE atE (exprP N N) s
theorem zqd (s:List UInt8) {n N:Nat} (hn:1000000<n) (hN:65536<N):zeC n s=some ⟨(exprR N s).1,(exprR N s).2⟩:=by
  unfold zeC exprR outL
  by_cases hs:65536<s.length
  · rw [if_pos hs,zgK s hs n]; rfl
  rw [if_neg hs,zgJ s (by omega) n (by omega)]
  have hl:=zb4 s
  unfold outR
  simp only [ob]
  by_cases h0:(tokR s).2.E≠0
  · simp only [h0,decide_true,cond_true,if_true,not_false_eq_true,ne_eq]; rfl
  simp only [h0,decide_false,cond_false,if_false,rdeep (l:=(tokR s).1) (by omega) (n:=n) (by omega),ob]
  rcases zfb (tks (tokR s).1 0) 0 0 with h1 | ⟨j,h1,_,h3⟩
  · rw [h1]
    simp only [show ¬((0:Int)≤-1) by decide,decide_false,cond_false,if_false]
    obtain ⟨r,h4,h5⟩:=rexpr (l:=(tokR s).1) (N:=N) (by omega) n N 0 (by omega) (by omega) (by omega) 0 (Nat.le_refl _) (Nat.zero_le _)
    have h4' : z4O n (tokR s).1 0=some r:=h4
    rw [h4']
    simp only [ob]
    revert h5
    cases run' (tokR s).1 (exprP N N) 0 with
    | bad i q =>
      rintro ⟨h6,h7⟩
      rw [h7,h6,rwrong]; rfl
    | ok a i q =>
      intro h5
      have h5' : r=_:=h5
      subst h5'
      dsimp only
      by_cases h8:i<(tokR s).1.length
      · rw [if_pos h8,decide_eq_true (show (i:Int)<((tokR s).1.length:Int) by omega),rwrong]; rfl
      · rw [if_neg h8,decide_eq_false (show ¬ (i:Int)<((tokR s).1.length:Int) by omega)]; rfl
  · rw [h1]
    have h4:j<(tokR s).1.length:=by simpa [tks] using h3
    simp only [show (0:Int)≤(j:Int) by omega,decide_true,cond_true,if_true,z5t h4,zpN h4]; rfl
theorem zm3 {N:Nat} {s:List UInt8} (hs:s.length≤3000):szE (exprR N s).1≤(tokR s).1.length+1∧smE 3000 (exprR N s).1:=by
  have z:szE noE≤(tokR s).1.length+1∧smE 3000 noE:=⟨by show 1+0≤_; omega,Nat.zero_le _,trivial⟩
  unfold exprR outL outR
  split
  · exact z
  split
  · exact z
  split
  · exact z
  cases h:run' (tokR s).1 (exprP N N) 0 with
  | bad j r=>exact z
  | ok a j r =>
    dsimp only
    split
    · exact z
    · refine ⟨by rw [zqv]; exact Nat.le_succ_of_le (znN h),(zso ..).2 ?_⟩
      have h1:=zn8 (M:=3000) N N 0 (tks (tokR s).1 0) fun t ht=>Nat.le_trans (zqC s t ht) hs
      rw [show (exprP N N).run 0 (tks (tokR s).1 0) = .ok a j r from h] at h1
      exact h1
theorem law5 (s:List UInt8) (_:s.length≤maxLen):∃ m,z50 m s=some true:=by
 obtain ⟨n,hn,hsane⟩ : ∃ n,1000000<n∧z1X n=some true:=⟨2000000+40,by omega,sane _⟩
 refine ⟨n,?_⟩
 unfold z50
 rw [hsane]
 by_cases hbig:500<s.length
 ·rw [decide_eq_true (by omega)]; rfl
 rw [decide_eq_false (by omega),cond_false]
 have hp:z8Z n s=some (exprR 65537 s):=zoE s hn (by omega)
 obtain ⟨h1,h3⟩:=zm3 (N:=65537) (s:=s) (by omega)
 have h2:=zb4 s
 rw [hp,zqd s hn (N:=65537) (by omega)]
 simp only [ob,decide_true,Bool.and_self,Bool.not_true,cond_false]
 rw [zd2 n _ (by omega) (by omega)]
 simp only [ob,Bool.not_true,bJ,cond_false]
 by_cases h0:(exprR 65537 s).2.E≠0
 ·simp only [h0,decide_true,cond_true,ne_eq,not_false_eq_true]
 ·simp only [h0,decide_false,cond_false]
  rw [zk0 (by omega) h3 hn,zjs (by omega) h3 hn]
  simp only [ob,decide_true,Bool.and_self]
end Go.Proofs.YtcmaoifiiigggaaGreatDoor
namespace Go.Abs
open Go.Sem Go.ChangeShapes Go.RowKit
theorem Meets.law {P:Program} {f:FuncId} {args:List Value} {H:List HA} (h:Meets P f args H (fun v G=>v = .bool true∧G=[])) {w:World} (hs:Sats w (fun _=>.no) H) :
  Calls P f args.toArray w fun e w'=>e = .returned (.bool true)∧Below w.heap.size w w':=by
 refine (h w (fun _=>.no) (fun _ _=>rfl) hs).mono fun e w' ⟨v,G,o',he,⟨hv,_⟩,_,ht,_⟩=>?_
 subst hv
 exact ⟨he,ht.os,ht.tape,ht.output,ht.size,fun k hk=>(ht.no k hk rfl).2⟩
end Go.Abs
namespace Go.Abs
open Go.Sem Go.ChangeShapes Go.RowKit
section
variable {H : Type} {enc : TypeId × Value → H} {P : Program} {w : World} {base : Nat} {sp : Nat → Bool} {held : Bool}
end
end Go.Abs
namespace Go.Abs
open Go.Sem Go.ChangeShapes Go.RowKit
section
variable {H : Type} {enc : TypeId × Value → H} {P : Program} {w : World} {base : Nat} {sp : Nat → Bool} {held : Bool}
def Opens (enc:TypeId×Value→H) (P:Program) (w:World) (base:Nat) (sp:Nat→Bool) (held:Bool) (t:TypeId) {α:Type} (F:α→List Value) (wf:α→Prop):Prop:=
 ∀ (fuel:Nat) (cs:List Value) (x:DataW H×List MemPlace),DataW.trod enc P w base sp held fuel t cs=some x→∃ a,cs=F a∧wf a
end
end Go.Abs
namespace Go.Abs
open Go.Sem Go.ChangeShapes Go.RowKit
section
variable {H : Type} {enc : TypeId × Value → H} {P : Program} {w : World} {base : Nat} {sp : Nat → Bool} {held : Bool}
theorem zhz {t:TypeId} (ht:P.underlying t=some .string):Opens enc P w base sp held t eStr (fun l=>l.length≤maxLen):=by
 intro fuel cs x h
 obtain ⟨s,hc,_,hl⟩:=DataW.trod_string ht h
 exact ⟨s.data.toList,by rw [hc]; rfl,hl⟩
def noO:Own:=fun _=>.no
end
end Go.Abs
namespace Go.Abs
open Go.Sem Go.ChangeShapes Go.RowKit
theorem zml {P:Program} {w:World} {n:String} {d:DataW Unit}:∀ {l:List (String×DataW Unit)} {ps:List MemPlace},DataW.LaidVars P w l ps→(n,d)∈l→
    ∃ g t cs fuel p,P.globalNamed n=some g∧(P.globals[g]?).map (·.type)=some t∧w.var? P n=some cs∧DataW.trod (fun _=>()) P w 0 (fun _=>true) false fuel t cs.toList=some (d,p)
  | [],_,_,h=>by simp at h
  | (m, e) :: r, ps, ⟨g, t, cs, fuel, p, q, h1, h2, h3, h4, h5, _⟩, h => by
    rcases List.mem_cons.1 h with h | h
    · cases h; exact ⟨g,t,cs,fuel,p,h1,h2,h3,h4⟩
    · exact zml h5 h
theorem zpU {P:Program} {w:World} {l:List (String×DataW Unit)} {name:String} {k:IntKind} {zs:List Int} {g t e:Nat} {n:Nat} (h:laidMet P l w) (hm:(name,Lib.tabData k zs)∈l)
  (hg:P.globalNamed name=some g) (hty:(P.globals[g]?).map (·.type)=some t) (ht:P.underlying t=some (.array n e)) (he:P.underlying e=some (.int k)) (hce:P.cellsOf e=1) (hct:P.cellsOf t=n):Lib.TabIs P w name k zs:=by
 obtain ⟨ps,hl,_⟩:=h
 obtain ⟨g',t',cs,fuel,p,hg',ht',hvar,hd⟩:=zml hl hm
 obtain rfl:=Option.some.inj (hg.symm.trans hg')
 obtain rfl:=Option.some.inj (hty.symm.trans ht')
 unfold Lib.TabIs
 rw [hvar,← Lib.cells_of_tab ht he hce hct hd]
section
variable {H : Type} {enc : TypeId × Value → H} {P : Program} {w : World} {base : Nat} {sp : Nat → Bool} {held : Bool}
end
end Go.Abs
namespace Go.Proofs.YtcmaoifiiigggaaGreatDoor
open Go.Abs
noncomputable def low:Nat:=(World.holding Tryz.prog default ⟨#[],#[],[]⟩).heap.size
noncomputable def z6L (os:Os):World:=
 let w0:=World.holding Tryz.prog os ⟨#[.cells #[.slice (some ⟨low+1,0,none⟩) 7 7,.slice none 0 0,.int .i64 2] 286,.cells (([9,13,1,32,133,101,160,5760,5600,8192,8202,1,8232,8233,1,8239,8287,48,12288,12288,1]:List Int).map (Value.int .u16)).toArray 289],#[],[]⟩
 { w0 with heap:=((w0.heap.modify 0 fun
  | .cells _ t frozen=>.cells (([0,0,0,0,0,0,0,0,0,1,1,1,1,1,0,0,0,0,0,0,0,0,0,0,0,0,0,0,0,0,0,0,1,0,0,0,0,0,0,0,0,0,0,0,0,0,0,0,0,0,0,0,0,0,0,0,0,0,0,0,0,0,0,0,0,0,0,0,0,0,0,0,0,0,0,0,0,0,0,0,0,0,0,0,0,0,0,0,0,0,0,0,0,0,0,0,0,0,0,0,0,0,0,0,0,0,0,0,0,0,0,0,0,0,0,0,0,0,0,0,0,0,0,0,0,0,0,0,0,0,0,0,0,0,0,0,0,0,0,0,0,0,0,0,0,0,0,0,0,0,0,0,0,0,0,0,0,0,0,0,0,0,0,0,0,0,0,0,0,0,0,0,0,0,0,0,0,0,0,0,0,0,0,0,0,0,0,0,0,0,0,0,0,0,0,0,0,0,0,0,0,0,0,0,0,0,0,0,0,0,0,0,0,0,0,0,0,0,0,0,0,0,0,0,0,0,0,0,0,0,0,0,0,0,0,0,0,0,0,0,0,0,0,0,0,0,0,0,0,0,0,0,0,0,0,0]:List Int).map (Value.int .u8)).toArray t frozen
  | o=>o).modify 1 fun
  | .cells _ t frozen=>.cells #[.pointer (some ⟨low,0,none⟩)] t frozen
  | o=>o) }
def laidL:List (String×DataW Unit):=[("unicode.White_Space",Rows.laid_unicode_White_Space),("strings.asciiSpace",Rows.laid_strings_asciiSpace)]
theorem z81 (os:Os) (args:Array Value):laidMet Tryz.prog laidL ((z6L os).forCall (fun _ _=>0) ⟨#[],args,[]⟩).memory:=
 laidMet_of_run' 8 (by kernel_rfl) (by kernel_rfl)
theorem ztO {W:World} (h:laidMet Tryz.prog laidL W):GlobL W where
 space:=⟨0,gSpc,by decide,zpU h (List.mem_cons_of_mem _ (List.mem_cons.2 (.inl (by kernel_rfl)))) gSpc (t:=242) (by kernel_rfl) Tryz.underlying242 Tryz.underlying5 (by kernel_rfl) (by kernel_rfl)⟩
theorem zly {W:World} (hs:W.ShapedOpen Tryz.prog):4≤W.heap.size:=by
 obtain ⟨o,_,h,_⟩:=hs.2 4 (of_decide_eq_true (by kernel_rfl)) (of_decide_eq_true (by kernel_rfl))
 have:=(Array.getElem?_eq_some_iff.1 h).1
 omega
theorem globP {W:World} (h:laidMet Tryz.prog laidL W) (hs:W.ShapedOpen Tryz.prog) (k:Nat):globA.p W noO k:=⟨zly hs,fun _ _=>rfl,ztO h⟩
end Go.Proofs.YtcmaoifiiigggaaGreatDoor
