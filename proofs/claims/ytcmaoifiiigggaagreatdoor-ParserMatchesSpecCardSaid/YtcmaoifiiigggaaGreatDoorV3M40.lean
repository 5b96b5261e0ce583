/-
  Texts that stand side by side: Pz, P3, AbsEnd, AbsEnd3, AbsEnd4, AbsEnd5, AbsLaid, LaidPs.
-/
import Derived.Test.YtcmaoifiiigggaaGreatDoorV3M36
import Derived.Test.YtcmaoifiiigggaaGreatDoorV3Qw
import Derived.Test.YtcmaoifiiigggaaGreatDoorV3W3
import Derived.WalkKit
import Derived.ProofKit
import Derived.OpenShut
import Derived.ShutString
import Derived.ChangeOld
import Derived.Below
import Derived.SliceStrings
import Derived.ChangeArms
import Derived.LaidHandle
import Derived.Deep.DeepHandedRow
import Derived.Test.YtcmaoifiiigggaaGreatDoorRows
import Derived.Test.YtcmaoifiiigggaaGreatDoorChecked
set_option linter.unusedSimpArgs false
set_option linter.unusedVariables false
namespace Go.Proofs.YtcmaoifiiigggaaGreatDoor
open Go.Abs
set_option maxRecDepth 100000
theorem sane (n:Nat):z1X (n+40)=some true:=by kernel_rfl
open Go.Abs Go.Ps Go.Lex
theorem zq9 {N:Nat} {s:List UInt8}:szSrc (z4K N s).1≤(tokR s).1.length:=by
  unfold z4K outL outR
  split
  · exact yX _
  split
  · exact yX _
  split
  · exact yX _
  cases h:run' (tokR s).1 (srcP N) 0 with
  | bad j r=>exact yX _
  | ok a j r =>
    dsimp only
    split
    · exact yX _
    · rw [zke]; exact zhG h
theorem law3 (s:List UInt8) (_:s.length≤maxLen):∃ m,z6c m s=some true:=by
 obtain ⟨n,hn,hsane⟩ : ∃ n,1000000<n∧z1X n=some true:=⟨2000000+40,by omega,sane _⟩
 refine ⟨n,?_⟩
 unfold z6c
 rw [hsane]
 by_cases hbig:2000<s.length
 ·rw [yM (by omega)]; rfl
 rw [yL (by omega),yJ]
 have hp:z39 n s=some (z4K 65537 s):=zjY s hn (by omega)
 have h1:=zq9 (N:=65537) (s:=s)
 have h2:=zb4 s
 rw [hp,zo8 s hn (N:=65537) (by omega)]
 simp only [ob,yQ,Bool.and_self,yK]
 rw [zgO _ (by omega) (by omega)]
 rfl
end Go.Proofs.YtcmaoifiiigggaaGreatDoor
namespace Go.Abs
open Go.Sem Go.ChangeShapes Go.RowKit
theorem Meets.law {P:Program} {f:FuncId} {args:List Value} {H:List HA} (h:Meets P f args H (fun v G=>v = .bool true∧G=[])) {w:World} (hs:Sats w (fun _=>.no) H) :
  Calls P f args.toArray w fun e w'=>e = .returned (.bool true)∧Below w.heap.size w w':=by
 refine (h w (fun _=>.no) (fun _ _=>rfl) hs).mono fun e w' ⟨v,G,o',he,⟨hv,_⟩,_,ht,_⟩=>?_
 subst hv
 exact ⟨he,ht.os,ht.tape,ht.output,ht.size,fun k hk=>(ht.no k hk rfl).2⟩
end Go.Abs
namespace Go.Abs
open Go.Sem Go.ChangeShapes Go.RowKit
section
variable {H : Type} {enc : TypeId × Value → H} {P : Program} {w : World} {base : Nat} {sp : Nat → Bool} {held : Bool}
end
end Go.Abs
namespace Go.Abs
open Go.Sem Go.ChangeShapes Go.RowKit
section
variable {H : Type} {enc : TypeId × Value → H} {P : Program} {w : World} {base : Nat} {sp : Nat → Bool} {held : Bool}
def Opens (enc:TypeId×Value→H) (P:Program) (w:World) (base:Nat) (sp:Nat→Bool) (held:Bool) (t:TypeId) {α:Type} (F:α→List Value) (wf:α→Prop):Prop:=
 ∀ (fuel:Nat) (cs:List Value) (x:DataW H×List MemPlace),DataW.trod enc P w base sp held fuel t cs=some x→∃ a,cs=F a∧wf a
end
end Go.Abs
namespace Go.Abs
open Go.Sem Go.ChangeShapes Go.RowKit
section
variable {H : Type} {enc : TypeId × Value → H} {P : Program} {w : World} {base : Nat} {sp : Nat → Bool} {held : Bool}
theorem zhz {t:TypeId} (ht:P.underlying t=some .string):Opens enc P w base sp held t eStr (fun l=>l.length≤maxLen):=by
 intro fuel cs x h
 obtain ⟨s,hc,_,hl⟩:=DataW.trod_string ht h
 exact ⟨s.data.toList,by rw [hc]; rfl,hl⟩
def noO:Own:=fun _=>.no
end
end Go.Abs
namespace Go.Abs
open Go.Sem Go.ChangeShapes Go.RowKit
theorem zml {P:Program} {w:World} {n:String} {d:DataW Unit}:∀ {l:List (String×DataW Unit)} {ps:List MemPlace},DataW.LaidVars P w l ps→(n,d)∈l→
    ∃ g t cs fuel p,P.globalNamed n=some g∧(P.globals[g]?).map (·.type)=some t∧w.var? P n=some cs∧DataW.trod (fun _=>()) P w 0 (fun _=>true) false fuel t cs.toList=some (d,p)
  | [],_,_,h=>by simp at h
  | (m, e) :: r, ps, ⟨g, t, cs, fuel, p, q, h1, h2, h3, h4, h5, _⟩, h => by
    rcases List.mem_cons.1 h with h | h
    · cases h; exact ⟨g,t,cs,fuel,p,h1,h2,h3,h4⟩
    · exact zml h5 h
theorem zpU {P:Program} {w:World} {l:List (String×DataW Unit)} {name:String} {k:IntKind} {zs:List Int} {g t e:Nat} {n:Nat} (h:laidMet P l w) (hm:(name,Lib.tabData k zs)∈l)
  (hg:P.globalNamed name=some g) (hty:(P.globals[g]?).map (·.type)=some t) (ht:P.underlying t=some (.array n e)) (he:P.underlying e=some (.int k)) (hce:P.cellsOf e=1) (hct:P.cellsOf t=n):Lib.TabIs P w name k zs:=by
 obtain ⟨ps,hl,_⟩:=h
 obtain ⟨g',t',cs,fuel,p,hg',ht',hvar,hd⟩:=zml hl hm
 obtain rfl:=Option.some.inj (hg.symm.trans hg')
 obtain rfl:=Option.some.inj (hty.symm.trans ht')
 unfold Lib.TabIs
 rw [hvar,← Lib.cells_of_tab ht he hce hct hd]
section
variable {H : Type} {enc : TypeId × Value → H} {P : Program} {w : World} {base : Nat} {sp : Nat → Bool} {held : Bool}
end
end Go.Abs
namespace Go.Proofs.YtcmaoifiiigggaaGreatDoor
open Go.Abs
noncomputable def low:Nat:=(World.holding Tryz.prog default ⟨#[],#[],[]⟩).heap.size
noncomputable def z6L (os:Os):World:=
 let w0:=World.holding Tryz.prog os ⟨#[.cells #[.slice (some ⟨low+1,0,none⟩) 7 7,.slice none 0 0,.int .i64 2] 286,.cells (([9,13,1,32,133,101,160,5760,5600,8192,8202,1,8232,8233,1,8239,8287,48,12288,12288,1]:List Int).map (Value.int .u16)).toArray 289],#[],[]⟩
 { w0 with heap:=((w0.heap.modify 0 fun
  | .cells _ t frozen=>.cells (([0,0,0,0,0,0,0,0,0,1,1,1,1,1,0,0,0,0,0,0,0,0,0,0,0,0,0,0,0,0,0,0,1,0,0,0,0,0,0,0,0,0,0,0,0,0,0,0,0,0,0,0,0,0,0,0,0,0,0,0,0,0,0,0,0,0,0,0,0,0,0,0,0,0,0,0,0,0,0,0,0,0,0,0,0,0,0,0,0,0,0,0,0,0,0,0,0,0,0,0,0,0,0,0,0,0,0,0,0,0,0,0,0,0,0,0,0,0,0,0,0,0,0,0,0,0,0,0,0,0,0,0,0,0,0,0,0,0,0,0,0,0,0,0,0,0,0,0,0,0,0,0,0,0,0,0,0,0,0,0,0,0,0,0,0,0,0,0,0,0,0,0,0,0,0,0,0,0,0,0,0,0,0,0,0,0,0,0,0,0,0,0,0,0,0,0,0,0,0,0,0,0,0,0,0,0,0,0,0,0,0,0,0,0,0,0,0,0,0,0,0,0,0,0,0,0,0,0,0,0,0,0,0,0,0,0,0,0,0,0,0,0,0,0,0,0,0,0,0,0,0,0,0,0,0,0]:List Int).map (Value.int .u8)).toArray t frozen
  | o=>o).modify 1 fun
  | .cells _ t frozen=>.cells #[.pointer (some ⟨low,0,none⟩)] t frozen
  | o=>o) }
def laidL:List (String×DataW Unit):=[("unicode.White_Space",Rows.laid_unicode_White_Space),("strings.asciiSpace",Rows.laid_strings_asciiSpace)]
theorem z81 (os:Os) (args:Array Value):laidMet Tryz.prog laidL ((z6L os).forCall (fun _ _=>0) ⟨#[],args,[]⟩).memory:=
 laidMet_of_run' 8 (by kernel_rfl) (by kernel_rfl)
theorem ztO {W:World} (h:laidMet Tryz.prog laidL W):GlobL W where
 space:=⟨0,gSpc,by decide,zpU h (List.mem_cons_of_mem _ (List.mem_cons.2 (.inl (by kernel_rfl)))) gSpc (t:=242) (by kernel_rfl) Tryz.underlying242 Tryz.underlying5 (by kernel_rfl) (by kernel_rfl)⟩
theorem zly {W:World} (hs:W.ShapedOpen Tryz.prog):4≤W.heap.size:=by
 obtain ⟨o,_,h,_⟩:=hs.2 4 (of_decide_eq_true (by kernel_rfl)) (of_decide_eq_true (by kernel_rfl))
 have:=(Array.getElem?_eq_some_iff.1 h).1
 omega
theorem globP {W:World} (h:laidMet Tryz.prog laidL W) (hs:W.ShapedOpen Tryz.prog) (k:Nat):globA.p W noO k:=⟨zly hs,fun _ _=>rfl,ztO h⟩
end Go.Proofs.YtcmaoifiiigggaaGreatDoor
