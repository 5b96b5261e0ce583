/-
  Texts that stand side by side: Pz, P10, AbsEnd, AbsEnd3, AbsEnd4, AbsEnd5, AbsLaid, LaidPs.
-/
import Derived.Test.YtcmaoifiiigggaaGreatDoorV10M22
import Derived.Test.YtcmaoifiiigggaaGreatDoorV10FaOwn
import Derived.Test.YtcmaoifiiigggaaGreatDoorFq
import Derived.Test.YtcmaoifiiigggaaGreatDoorV10To
import Derived.Test.YtcmaoifiiigggaaGreatDoorV10W10
import Derived.Test.YtcmaoifiiigggaaGreatDoorM0
import Derived.WalkKit
import Derived.ProofKit
import Derived.OpenShut
import Derived.ShutString
import Derived.ChangeOld
import Derived.Below
import Derived.SliceStrings
import Derived.Test.YtcmaoifiiigggaaGreatDoorM1
import Derived.ChangeArms
import Derived.Test.YtcmaoifiiigggaaGreatDoorM2
import Derived.LaidHandle
import Derived.Deep.DeepHandedRow
import Derived.Test.YtcmaoifiiigggaaGreatDoorRows
import Derived.Test.YtcmaoifiiigggaaGreatDoorChecked
set_option linter.unusedSimpArgs false
set_option linter.unusedVariables false
namespace Go.Proofs.YtcmaoifiiigggaaGreatDoor
open Go.Abs
set_option maxRecDepth 100000
theorem sane (n:Nat):z1X (n+40)=some true:=by kernel_rfl
end Go.Proofs.YtcmaoifiiigggaaGreatDoor
namespace Go.Proofs.YtcmaoifiiigggaaGreatDoor
open Go.Abs Go.Ps Go.Lex
theorem zwM (s:List UInt8) {n:Nat} (hn:1000000<n):z39 n s=some (z4K 65537 s):=zjY s hn (by omega)
theorem zx6 {T:List Lx} (h:GdT T):SmT 3000 T:=fun t ht=>(h t ht).2
theorem zyd {T:List Lx} (h:GdT T):(textR T).2≠1:=by
 unfold textR
 rw [if_pos fun t ht=>ztS (h t ht).1]
 split
 ·show ¬((2:Int)=1); decide
 ·show ¬((0:Int)=1); decide
theorem zyC {T:List Lx} (h:GdT T):(outT T).2=0∨(outT T).2=2:=by
 unfold outT
 rw [if_neg (zyd h)]
 split
 ·exact .inr rfl
 ·exact .inl rfl
theorem gA_in (s:List UInt8) (a:Int):0≤gA (tokR s).1 a∧gA (tokR s).1 a≤s.length:=by
  unfold gA
  split
  · omega
  cases h:(tokR s).1[a.toNat]? with
  | none=>dsimp only; omega
  | some t =>
    dsimp only
    have ht:=List.mem_of_getElem? h
    rcases zgT s with ⟨_,h2⟩ | ⟨a,e,h1,h2⟩
    · rw [h2] at ht
      obtain ⟨y,_,rfl⟩:=List.mem_map.1 ht
      show (0:Int)≤((s.length - y.2.1:Nat):Int)∧((s.length - y.2.1:Nat):Int)≤_
      omega
    · rw [h1] at ht; exact absurd ht List.not_mem_nil
theorem eA_in (s:List UInt8) (j:Nat):0≤eA (tokR s).1 s.length j∧eA (tokR s).1 s.length j≤s.length:=by
 have h:=gA_in s (j:Int)
 unfold gA at h
 rw [if_neg (show ¬((j:Int)<0) by omega),Int.toNat_natCast] at h
 unfold eA
 cases e:(tokR s).1[j]? with
 | none=>dsimp only; omega
 | some t=>rw [e] at h; exact h
theorem zy5 (s:List UInt8):0≤(tokR s).2.At∧(tokR s).2.At≤s.length:=by
 unfold tokR
 cases (toksP kwP (s.length+1) s).2 with
 | none=>show (0:Int)≤0∧(0:Int)≤_; omega
 | some p=>obtain ⟨k,e⟩:=p; show (0:Int)≤((s.length - k:Nat):Int)∧((s.length - k:Nat):Int)≤_; omega
theorem zxu {N:Nat} {s:List UInt8} (hs:s.length≤65536) (h:(z4K N s).2.E≠0):(z4K N s).1=⟨[],[]⟩∧0≤(z4K N s).2.At∧(z4K N s).2.At≤s.length:=by
  unfold z4K outL at h ⊢
  rw [if_neg (by omega)] at h ⊢
  unfold outR at h ⊢
  by_cases h0:(tokR s).2.E≠0
  · rw [if_pos h0]
    exact ⟨rfl,zy5 s⟩
  rw [if_neg h0] at h ⊢
  by_cases h1:0≤deepT (tks (tokR s).1 0) 0 0
  · rw [if_pos h1]
    exact ⟨rfl,gA_in s _⟩
  rw [if_neg h1] at h ⊢
  cases hr:run' (tokR s).1 (srcP N) 0 with
  | bad j r=>exact ⟨rfl,eA_in s j⟩
  | ok a j r =>
    rw [hr] at h
    dsimp only at h ⊢
    by_cases h2:j<(tokR s).1.length
    · rw [if_pos h2]; exact ⟨rfl,eA_in s j⟩
    · rw [if_neg h2] at h; exact absurd rfl h
theorem law10 (s:List UInt8) (_:s.length≤maxLen):∃ m,zco m s=some true:=by
 obtain ⟨n,hn,hsane⟩ : ∃ n,1000000<n∧z1X n=some true:=⟨2000000+40,by omega,sane _⟩
 refine ⟨n,?_⟩
 unfold zco
 rw [hsane]
 by_cases hb1:2000<s.length
 ·rw [decide_eq_true (p:=2000<(s.length:Int)) (by omega)]; rfl
 rw [decide_eq_false (p:=2000<(s.length:Int)) (by omega),zwM s hn]
 simp only [ob,cond_false]
 by_cases h0:(z4K 65537 s).2.E≠0
 ·obtain ⟨h1,h2,h3⟩:=zxu (by omega) h0
  simp only [h0,h2,h3,ne_eq,not_false_eq_true,decide_true,cond_true,Bool.and_self,h1]
  rw [zth ⟨[],[]⟩ (by show 0+1<n; omega) (Nat.zero_le _)]
  rfl
 have h0' : (z4K 65537 s).2.E=0:=by omega
 simp only [h0',ne_eq,not_true_eq_false,decide_false,cond_false]
 have q:=zxy (N:=65537) (s:=s) (by omega)
 have z1:=zwZ (N:=65537) (s:=s)
 have z2:=zb4 s
 generalize (z4K 65537 s).1=x at *
 rw [zx8 (by omega) (zx6 q.2) hn,q.1]
 unfold outW
 simp only [if_true,ob]
 rcases zyC q.2 with h1 | h1
 rotate_left
 ·rw [h1]; rfl
 obtain ⟨y,h2,h3⟩:=back (s:=(outT (zvP x)).1) (by omega) q.1 (Prod.ext rfl h1)
 rw [h1,zwM _ hn,h2]
 have ty:zvP y=zvP x:=by rw [← zww z0 y,h3,zww]
 have fy:zvR y=true:=by rw [← zwf z0 y,h3,zwf]; exact q.1
 have zy:szSrc y=szSrc x:=by rw [← zke z0 y,h3,zke]
 simp only [show decide ((0:Int)=2)=false from rfl,cond_false,ob]
 rw [zx8 (x:=y) (by omega) (by rw [ty]; exact zx6 q.2) hn,fy,ty]
 unfold outW
 simp only [if_true,ob,decide_true,Bool.and_self,cond_true]
 rw [zox _ (by omega) (by omega),zox _ (by omega) (by omega),h3]
 simp only [ob]
 have z4:=zke z0 x
 rw [zgO _ (by omega) (by omega)]
 simp only [ob,bJ,h1,decide_true,Bool.and_self]
end Go.Proofs.YtcmaoifiiigggaaGreatDoor
namespace Go.Abs
open Go.Sem Go.ChangeShapes Go.RowKit
theorem Meets.law {P:Program} {f:FuncId} {args:List Value} {H:List HA} (h:Meets P f args H (fun v G=>v = .bool true∧G=[])) {w:World} (hs:Sats w (fun _=>.no) H) :
  Calls P f args.toArray w fun e w'=>e = .returned (.bool true)∧Below w.heap.size w w':=by
 refine (h w (fun _=>.no) (fun _ _=>rfl) hs).mono fun e w' ⟨v,G,o',he,⟨hv,_⟩,_,ht,_⟩=>?_
 subst hv
 exact ⟨he,ht.os,ht.tape,ht.output,ht.size,fun k hk=>(ht.no k hk rfl).2⟩
end Go.Abs
namespace Go.Abs
open Go.Sem Go.ChangeShapes Go.RowKit
section
variable {H : Type} {enc : TypeId × Value → H} {P : Program} {w : World} {base : Nat} {sp : Nat → Bool} {held : Bool}
end
end Go.Abs
namespace Go.Abs
open Go.Sem Go.ChangeShapes Go.RowKit
section
variable {H : Type} {enc : TypeId × Value → H} {P : Program} {w : World} {base : Nat} {sp : Nat → Bool} {held : Bool}
def Opens (enc:TypeId×Value→H) (P:Program) (w:World) (base:Nat) (sp:Nat→Bool) (held:Bool) (t:TypeId) {α:Type} (F:α→List Value) (wf:α→Prop):Prop:=
 ∀ (fuel:Nat) (cs:List Value) (x:DataW H×List MemPlace),DataW.trod enc P w base sp held fuel t cs=some x→∃ a,cs=F a∧wf a
end
end Go.Abs
namespace Go.Abs
open Go.Sem Go.ChangeShapes Go.RowKit
section
variable {H : Type} {enc : TypeId × Value → H} {P : Program} {w : World} {base : Nat} {sp : Nat → Bool} {held : Bool}
theorem zhz {t:TypeId} (ht:P.underlying t=some .string):Opens enc P w base sp held t eStr (fun l=>l.length≤maxLen):=by
 intro fuel cs x h
 obtain ⟨s,hc,_,hl⟩:=DataW.trod_string ht h
 exact ⟨s.data.toList,by rw [hc]; rfl,hl⟩
def noO:Own:=fun _=>.no
end
end Go.Abs
namespace Go.Abs
open Go.Sem Go.ChangeShapes Go.RowKit
theorem zml {P:Program} {w:World} {n:String} {d:DataW Unit}:∀ {l:List (String×DataW Unit)} {ps:List MemPlace},DataW.LaidVars P w l ps→(n,d)∈l→
    ∃ g t cs fuel p,P.globalNamed n=some g∧(P.globals[g]?).map (·.type)=some t∧w.var? P n=some cs∧DataW.trod (fun _=>()) P w 0 (fun _=>true) false fuel t cs.toList=some (d,p)
  | [],_,_,h=>by simp at h
  | (m, e) :: r, ps, ⟨g, t, cs, fuel, p, q, h1, h2, h3, h4, h5, _⟩, h => by
    rcases List.mem_cons.1 h with h | h
    · cases h; exact ⟨g,t,cs,fuel,p,h1,h2,h3,h4⟩
    · exact zml h5 h
theorem zpU {P:Program} {w:World} {l:List (String×DataW Unit)} {name:String} {k:IntKind} {zs:List Int} {g t e:Nat} {n:Nat} (h:laidMet P l w) (hm:(name,Lib.tabData k zs)∈l)
  (hg:P.globalNamed name=some g) (hty:(P.globals[g]?).map (·.type)=some t) (ht:P.underlying t=some (.array n e)) (he:P.underlying e=some (.int k)) (hce:P.cellsOf e=1) (hct:P.cellsOf t=n):Lib.TabIs P w name k zs:=by
 obtain ⟨ps,hl,_⟩:=h
 obtain ⟨g',t',cs,fuel,p,hg',ht',hvar,hd⟩:=zml hl hm
 obtain rfl:=Option.some.inj (hg.symm.trans hg')
 obtain rfl:=Option.some.inj (hty.symm.trans ht')
 unfold Lib.TabIs
 rw [hvar,← Lib.cells_of_tab ht he hce hct hd]
section
variable {H : Type} {enc : TypeId × Value → H} {P : Program} {w : World} {base : Nat} {sp : Nat → Bool} {held : Bool}
end
end Go.Abs
namespace Go.Proofs.YtcmaoifiiigggaaGreatDoor
open Go.Abs
noncomputable def low:Nat:=(World.holding Tryz.prog default ⟨#[],#[],[]⟩).heap.size
noncomputable def z6L (os:Os):World:=
 let w0:=World.holding Tryz.prog os ⟨#[.cells #[.slice (some ⟨low+1,0,none⟩) 7 7,.slice none 0 0,.int .i64 2] 286,.cells (([9,13,1,32,133,101,160,5760,5600,8192,8202,1,8232,8233,1,8239,8287,48,12288,12288,1]:List Int).map (Value.int .u16)).toArray 289],#[],[]⟩
 { w0 with heap:=((w0.heap.modify 0 fun
  | .cells _ t frozen=>.cells (([0,0,0,0,0,0,0,0,0,1,1,1,1,1,0,0,0,0,0,0,0,0,0,0,0,0,0,0,0,0,0,0,1,0,0,0,0,0,0,0,0,0,0,0,0,0,0,0,0,0,0,0,0,0,0,0,0,0,0,0,0,0,0,0,0,0,0,0,0,0,0,0,0,0,0,0,0,0,0,0,0,0,0,0,0,0,0,0,0,0,0,0,0,0,0,0,0,0,0,0,0,0,0,0,0,0,0,0,0,0,0,0,0,0,0,0,0,0,0,0,0,0,0,0,0,0,0,0,0,0,0,0,0,0,0,0,0,0,0,0,0,0,0,0,0,0,0,0,0,0,0,0,0,0,0,0,0,0,0,0,0,0,0,0,0,0,0,0,0,0,0,0,0,0,0,0,0,0,0,0,0,0,0,0,0,0,0,0,0,0,0,0,0,0,0,0,0,0,0,0,0,0,0,0,0,0,0,0,0,0,0,0,0,0,0,0,0,0,0,0,0,0,0,0,0,0,0,0,0,0,0,0,0,0,0,0,0,0,0,0,0,0,0,0,0,0,0,0,0,0,0,0,0,0,0,0]:List Int).map (Value.int .u8)).toArray t frozen
  | o=>o).modify 1 fun
  | .cells _ t frozen=>.cells #[.pointer (some ⟨low,0,none⟩)] t frozen
  | o=>o) }
def laidL:List (String×DataW Unit):=[("unicode.White_Space",Rows.laid_unicode_White_Space),("strings.asciiSpace",Rows.laid_strings_asciiSpace)]
theorem z81 (os:Os) (args:Array Value):laidMet Tryz.prog laidL ((z6L os).forCall (fun _ _=>0) ⟨#[],args,[]⟩).memory:=
 laidMet_of_run' 8 (by kernel_rfl) (by kernel_rfl)
theorem ztO {W:World} (h:laidMet Tryz.prog laidL W):GlobL W where
 space:=⟨0,gSpc,by decide,zpU h (List.mem_cons_of_mem _ (List.mem_cons.2 (.inl (by kernel_rfl)))) gSpc (t:=242) (by kernel_rfl) Tryz.underlying242 Tryz.underlying5 (by kernel_rfl) (by kernel_rfl)⟩
theorem zly {W:World} (hs:W.ShapedOpen Tryz.prog):4≤W.heap.size:=by
 obtain ⟨o,_,h,_⟩:=hs.2 4 (of_decide_eq_true (by kernel_rfl)) (of_decide_eq_true (by kernel_rfl))
 have:=(Array.getElem?_eq_some_iff.1 h).1
 omega
theorem globP {W:World} (h:laidMet Tryz.prog laidL W) (hs:W.ShapedOpen Tryz.prog) (k:Nat):globA.p W noO k:=⟨zly hs,fun _ _=>rfl,ztO h⟩
end Go.Proofs.YtcmaoifiiigggaaGreatDoor
