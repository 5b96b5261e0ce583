/-
  Texts that stand side by side: TeEnc, TeRec, TeIt, TeFi, TeKs.
-/
import Derived.Test.YtgjcniomhahgkaaGreatDoorTopT
import Derived.Test.YtgjcniomhahgkaaGreatDoorTeDefs
import Derived.Test.YtgjcniomhahgkaaGreatDoorM2
set_option linter.unusedSimpArgs false
set_option linter.unusedVariables false
namespace Go.Proofs.YtgjcniomhahgkaaGreatDoor
open Go.Abs
set_option maxRecDepth 20000
def zk.enc (x:zk):List Go.Value:=[.string (bs x.name_),.int .i64 x.kind_]
theorem zk.enc_ok (x:zk):(zk.enc x).length=2∧∀ u∈zk.enc x,u.oneCell'=true:=by
 constructor
 ·rfl
 ·intro u hu; simp only [zk.enc,List.mem_cons,List.not_mem_nil,or_false] at hu; rcases hu with rfl | rfl <;> rfl
def zp.enc (x:zp):List Go.Value:=[.string (bs x.Name),.string (bs x.Value)]
theorem zp.enc_ok (x:zp):(zp.enc x).length=2∧∀ u∈zp.enc x,u.oneCell'=true:=by
 constructor
 ·rfl
 ·intro u hu; simp only [zp.enc,List.mem_cons,List.not_mem_nil,or_false] at hu; rcases hu with rfl | rfl <;> rfl
def z1G.enc (x:z1G):List Go.Value:=[.string (bs x.Number),.string (bs x.Unit),.int .i64 x.At]
theorem z1G.enc_ok (x:z1G):(z1G.enc x).length=3∧∀ u∈z1G.enc x,u.oneCell'=true:=by
 constructor
 ·rfl
 ·intro u hu; simp only [z1G.enc,List.mem_cons,List.not_mem_nil,or_false] at hu; rcases hu with rfl | rfl | rfl <;> rfl
def z13.enc (x:z13):List Go.Value:=[.int .i64 x.At,.int .i64 x.E]
theorem z13.enc_ok (x:z13):(z13.enc x).length=2∧∀ u∈z13.enc x,u.oneCell'=true:=by
 constructor
 ·rfl
 ·intro u hu; simp only [z13.enc,List.mem_cons,List.not_mem_nil,or_false] at hu; rcases hu with rfl | rfl <;> rfl
def zo.enc (x:zo):List Go.Value:=[.int .i64 x.Kind,.int .i64 x.At,.string (bs x.S)]
theorem zo.enc_ok (x:zo):(zo.enc x).length=3∧∀ u∈zo.enc x,u.oneCell'=true:=by
 constructor
 ·rfl
 ·intro u hu; simp only [zo.enc,List.mem_cons,List.not_mem_nil,or_false] at hu; rcases hu with rfl | rfl | rfl <;> rfl
def zC.enc (x:zC):List Go.Value:=[.string (bs x.s_),.int .i64 x.at_]
theorem zC.enc_ok (x:zC):(zC.enc x).length=2∧∀ u∈zC.enc x,u.oneCell'=true:=by
 constructor
 ·rfl
 ·intro u hu; simp only [zC.enc,List.mem_cons,List.not_mem_nil,or_false] at hu; rcases hu with rfl | rfl <;> rfl
def z6.enc (x:z6):List Go.Value:=[.int .i64 x.Op,.int .i64 x.A,.string (bs x.S)]
theorem z6.enc_ok (x:z6):(z6.enc x).length=3∧∀ u∈z6.enc x,u.oneCell'=true:=by
 constructor
 ·rfl
 ·intro u hu; simp only [z6.enc,List.mem_cons,List.not_mem_nil,or_false] at hu; rcases hu with rfl | rfl | rfl <;> rfl
def zD.enc (x:zD):List Go.Value:=[.bool x.is_,.int .i64 x.lo_,.int .i64 x.hi_]
theorem zD.enc_ok (x:zD):(zD.enc x).length=3∧∀ u∈zD.enc x,u.oneCell'=true:=by
 constructor
 ·rfl
 ·intro u hu; simp only [zD.enc,List.mem_cons,List.not_mem_nil,or_false] at hu; rcases hu with rfl | rfl | rfl <;> rfl
def zJ.enc (x:zJ):List Go.Value:=[.bool x.on_.is_,.int .i64 x.on_.lo_,.int .i64 x.on_.hi_,.bool x.end_.is_,.int .i64 x.end_.lo_,.int .i64 x.end_.hi_]
theorem zJ.enc_ok (x:zJ):(zJ.enc x).length=6∧∀ u∈zJ.enc x,u.oneCell'=true:=by
 constructor
 ·rfl
 ·intro u hu; simp only [zJ.enc,List.mem_cons,List.not_mem_nil,or_false] at hu; rcases hu with rfl | rfl | rfl | rfl | rfl | rfl <;> rfl
def zj.enc (x:zj):List Go.Value:=[.int .i64 x.Type_,.int .i64 x.N,.string (bs x.S)]
theorem zj.enc_ok (x:zj):(zj.enc x).length=3∧∀ u∈zj.enc x,u.oneCell'=true:=by
 constructor
 ·rfl
 ·intro u hu; simp only [zj.enc,List.mem_cons,List.not_mem_nil,or_false] at hu; rcases hu with rfl | rfl | rfl <;> rfl
abbrev z6y:TC zm where
 G:=Value
 es:=6
 F:=fun x g=>[.int .i64 x.Op,.int .i64 x.Type_,.int .i64 x.N,.int .i64 x.Slot,.string (bs x.S),g]
 fixed:=fun x g=>[]
 kids:=fun x g=>[(g,x.Args)]
 free:=by
  intro x g h hh
  cases hh
 ok:=by
  intro x g w o k hf hk
  refine ⟨rfl,?_⟩
  intro u hu
  simp only [List.mem_cons,List.not_mem_nil,or_false] at hu
  rcases hu with rfl | rfl | rfl | rfl | rfl | rfl <;> first | rfl | exact z7r (hk _ (.head _))
abbrev zE:NC zm:=z6y.nc
abbrev z7m:TC z7 where
 G:=Value×Value×Value
 es:=12
 F:=fun x g=>[.int .i64 x.Kind,.int .i64 x.Slot,.int .i64 x.N,.string (bs x.Name),.int .i64 x.X.Op,.int .i64 x.X.Type_,.int .i64 x.X.N,.int .i64 x.X.Slot,.string (bs x.X.S),g.1,g.2.1,g.2.2]
 fixed:=fun x g=>[nro g.1 zE x.X.Args]
 kids:=fun x g=>[(g.2.1,x.Body),(g.2.2,x.Else)]
 free:=by
  intro x g h hh
  simp only [List.mem_cons,List.not_mem_nil,or_false] at hh
  rcases hh with rfl <;> first | exact z5u | exact z47
 ok:=by
  intro x g w o k hf hk
  refine ⟨rfl,?_⟩
  intro u hu
  simp only [List.mem_cons,List.not_mem_nil,or_false] at hu
  rcases hu with rfl | rfl | rfl | rfl | rfl | rfl | rfl | rfl | rfl | rfl | rfl | rfl <;> first | rfl | exact z7e (hf _ (.head _)) | exact z5f (hf _ (.head _)) | exact z7r (hk _ (.head _)) | exact z7r (hk _ (.tail _ (.head _)))
abbrev zx:NC z7:=z7m.nc
abbrev z4a:NC zG where
 G:=Value×Value
 es:=3
 F:=fun x g=>[.string (bs x.Name),g.1,g.2]
 S:=fun x g=>[ro g.1 1 (x.Effects.map (eInt .i64)),nro g.2 zx x.Code]
 free:=by
  intro x g h hh
  simp only [List.mem_cons,List.not_mem_nil,or_false] at hh
  rcases hh with rfl | rfl <;> first | exact z5u | exact z47
 ok:=by
  intro x g w o k hh
  refine ⟨rfl,?_⟩
  intro u hu
  simp only [List.mem_cons,List.not_mem_nil,or_false] at hu
  rcases hu with rfl | rfl | rfl <;> first | rfl | exact z7e (hh _ (.head _)) | exact z5f (hh _ (.head _)) | exact z7e (hh _ (.tail _ (.head _))) | exact z5f (hh _ (.tail _ (.head _)))
abbrev z9e:TC z5t where
 G:=Value×Value
 es:=10
 F:=fun x g=>[.int .i64 x.Kind,.int .i64 x.At,.string (bs x.Name),g.1,.string (bs x.Amount.Number),.string (bs x.Amount.Unit),.int .i64 x.Amount.At,.string (bs x.Default),.bool x.HasDefault,g.2]
 fixed:=fun x g=>[ro g.1 1 (x.Texts.map eStr)]
 kids:=fun x g=>[(g.2,x.Conds)]
 free:=by
  intro x g h hh
  simp only [List.mem_cons,List.not_mem_nil,or_false] at hh
  rcases hh with rfl <;> first | exact z5u | exact z47
 ok:=by
  intro x g w o k hf hk
  refine ⟨rfl,?_⟩
  intro u hu
  simp only [List.mem_cons,List.not_mem_nil,or_false] at hu
  rcases hu with rfl | rfl | rfl | rfl | rfl | rfl | rfl | rfl | rfl | rfl <;> first | rfl | exact z7e (hf _ (.head _)) | exact z5f (hf _ (.head _)) | exact z7r (hk _ (.head _))
abbrev z61:NC z5t:=z9e.nc
abbrev z6F:NC z7Z where
 G:=Value
 es:=3
 F:=fun x g=>[.string (bs x.Name),.int .i64 x.At,g]
 S:=fun x g=>[nro g z61 x.Clauses]
 free:=by
  intro x g h hh
  simp only [List.mem_cons,List.not_mem_nil,or_false] at hh
  rcases hh with rfl <;> first | exact z5u | exact z47
 ok:=by
  intro x g w o k hh
  refine ⟨rfl,?_⟩
  intro u hu
  simp only [List.mem_cons,List.not_mem_nil,or_false] at hu
  rcases hu with rfl | rfl | rfl <;> first | rfl | exact z7e (hh _ (.head _)) | exact z5f (hh _ (.head _))
abbrev z3r:NC z6h where
 G:=Value
 es:=3
 F:=fun x g=>[.string (bs x.Name),.int .i64 x.At,g]
 S:=fun x g=>[nro g z6F x.Rules]
 free:=by
  intro x g h hh
  simp only [List.mem_cons,List.not_mem_nil,or_false] at hh
  rcases hh with rfl <;> first | exact z5u | exact z47
 ok:=by
  intro x g w o k hh
  refine ⟨rfl,?_⟩
  intro u hu
  simp only [List.mem_cons,List.not_mem_nil,or_false] at hu
  rcases hu with rfl | rfl | rfl <;> first | rfl | exact z7e (hh _ (.head _)) | exact z5f (hh _ (.head _))
abbrev za4:TC zK where
 G:=Value
 es:=4
 F:=fun x g=>[.int .i64 x.Op,.int .i64 x.At,.string (bs x.S),g]
 fixed:=fun x g=>[]
 kids:=fun x g=>[(g,x.Args)]
 free:=by
  intro x g h hh
  cases hh
 ok:=by
  intro x g w o k hf hk
  refine ⟨rfl,?_⟩
  intro u hu
  simp only [List.mem_cons,List.not_mem_nil,or_false] at hu
  rcases hu with rfl | rfl | rfl | rfl <;> first | rfl | exact z7r (hk _ (.head _))
abbrev zL:NC zK:=za4.nc
abbrev za5:TC zB where
 G:=Value×Value×Value
 es:=9
 F:=fun x g=>[.int .i64 x.Kind,.int .i64 x.At,.string (bs x.Name),.int .i64 x.X.Op,.int .i64 x.X.At,.string (bs x.X.S),g.1,g.2.1,g.2.2]
 fixed:=fun x g=>[nro g.1 zL x.X.Args]
 kids:=fun x g=>[(g.2.1,x.Body),(g.2.2,x.Else)]
 free:=by
  intro x g h hh
  simp only [List.mem_cons,List.not_mem_nil,or_false] at hh
  rcases hh with rfl <;> first | exact z5u | exact z47
 ok:=by
  intro x g w o k hf hk
  refine ⟨rfl,?_⟩
  intro u hu
  simp only [List.mem_cons,List.not_mem_nil,or_false] at hu
  rcases hu with rfl | rfl | rfl | rfl | rfl | rfl | rfl | rfl | rfl <;> first | rfl | exact z7e (hf _ (.head _)) | exact z5f (hf _ (.head _)) | exact z7r (hk _ (.head _)) | exact z7r (hk _ (.tail _ (.head _)))
abbrev zF:NC zB:=za5.nc
abbrev z23:NC z1d where
 G:=Value×Value
 es:=4
 F:=fun x g=>[.string (bs x.Name),.int .i64 x.At,g.1,g.2]
 S:=fun x g=>[ro g.1 1 (x.Effects.map (eInt .i64)),nro g.2 zF x.Code]
 free:=by
  intro x g h hh
  simp only [List.mem_cons,List.not_mem_nil,or_false] at hh
  rcases hh with rfl | rfl <;> first | exact z5u | exact z47
 ok:=by
  intro x g w o k hh
  refine ⟨rfl,?_⟩
  intro u hu
  simp only [List.mem_cons,List.not_mem_nil,or_false] at hu
  rcases hu with rfl | rfl | rfl | rfl <;> first | rfl | exact z7e (hh _ (.head _)) | exact z5f (hh _ (.head _)) | exact z7e (hh _ (.tail _ (.head _))) | exact z5f (hh _ (.tail _ (.head _)))
abbrev z72:NC z8y where
 G:=Value
 es:=3
 F:=fun x g=>[.string (bs x.Header),g,.string (bs x.Default)]
 S:=fun x g=>[ro g 1 (x.Values.map eStr)]
 free:=by
  intro x g h hh
  simp only [List.mem_cons,List.not_mem_nil,or_false] at hh
  rcases hh with rfl <;> first | exact z5u | exact z47
 ok:=by
  intro x g w o k hh
  refine ⟨rfl,?_⟩
  intro u hu
  simp only [List.mem_cons,List.not_mem_nil,or_false] at hu
  rcases hu with rfl | rfl | rfl <;> first | rfl | exact z7e (hh _ (.head _)) | exact z5f (hh _ (.head _))
abbrev z71:NC z8x where
 G:=Value×Value×Value×Value×Value
 es:=18
 F:=fun x g=>[.string (bs x.Name),.string (bs x.Pattern),g.1,.int .i64 x.Fresh,.int .i64 x.Stale,.int .i64 x.Down,.int .i64 x.Negative,g.2.1,.int .i64 x.Allow.From,.int .i64 x.Allow.To,.string (bs x.Allow.Pattern),g.2.2.1,g.2.2.2.1,g.2.2.2.2,.int .i64 x.Allow.Uses,.bool x.Signed,.int .i64 x.Cost,.string (bs x.Program)]
 S:=fun x g=>[ro g.1 1 (x.Tags.map eStr),nro g.2.1 z72 x.Vary,ro g.2.2.1 1 (x.Allow.Clients.map eStr),ro g.2.2.2.1 1 (x.Allow.Countries.map eStr),ro g.2.2.2.2 1 (x.Allow.Sites.map (eInt .i64))]
 free:=by
  intro x g h hh
  simp only [List.mem_cons,List.not_mem_nil,or_false] at hh
  rcases hh with rfl | rfl | rfl | rfl | rfl <;> first | exact z5u | exact z47
 ok:=by
  intro x g w o k hh
  refine ⟨rfl,?_⟩
  intro u hu
  simp only [List.mem_cons,List.not_mem_nil,or_false] at hu
  rcases hu with rfl | rfl | rfl | rfl | rfl | rfl | rfl | rfl | rfl | rfl | rfl | rfl | rfl | rfl | rfl | rfl | rfl | rfl <;> first | rfl | exact z7e (hh _ (.head _)) | exact z5f (hh _ (.head _)) | exact z7e (hh _ (.tail _ (.head _))) | exact z5f (hh _ (.tail _ (.head _))) | exact z7e (hh _ (.tail _ (.tail _ (.head _)))) | exact z5f (hh _ (.tail _ (.tail _ (.head _)))) | exact z7e (hh _ (.tail _ (.tail _ (.tail _ (.head _))))) | exact z5f (hh _ (.tail _ (.tail _ (.tail _ (.head _))))) | exact z7e (hh _ (.tail _ (.tail _ (.tail _ (.tail _ (.head _)))))) | exact z5f (hh _ (.tail _ (.tail _ (.tail _ (.tail _ (.head _))))))
abbrev z5l:NC z6G where
 G:=Value
 es:=3
 F:=fun x g=>[.string (bs x.Customer),.int .i64 x.Party,g]
 S:=fun x g=>[nro g z71 x.Rules]
 free:=by
  intro x g h hh
  simp only [List.mem_cons,List.not_mem_nil,or_false] at hh
  rcases hh with rfl <;> first | exact z5u | exact z47
 ok:=by
  intro x g w o k hh
  refine ⟨rfl,?_⟩
  intro u hu
  simp only [List.mem_cons,List.not_mem_nil,or_false] at hu
  rcases hu with rfl | rfl | rfl <;> first | rfl | exact z7e (hh _ (.head _)) | exact z5f (hh _ (.head _))
abbrev z7H:NC (List UInt8) where
 G:=Value
 es:=1
 F:=fun x g=>[g]
 S:=fun x g=>[ro g 1 (x.map eB8)]
 free:=by
  intro x g h hh
  simp only [List.mem_cons,List.not_mem_nil,or_false] at hh
  rcases hh with rfl <;> first | exact z5u | exact z47
 ok:=by
  intro x g w o k hh
  refine ⟨rfl,?_⟩
  intro u hu
  simp only [List.mem_cons,List.not_mem_nil,or_false] at hu
  rcases hu with rfl <;> first | rfl | exact z7e (hh _ (.head _)) | exact z5f (hh _ (.head _))
abbrev z2O:NC zl where
 G:=Value×Value×Value
 es:=3
 F:=fun x g=>[g.1,g.2.1,g.2.2]
 S:=fun x g=>[ro g.1 1 (x.stack_.map (eInt .i64)),ro g.2.1 1 (x.slots_.map (eInt .i64)),ro g.2.2 1 (x.loops_.map (eInt .i64))]
 free:=by
  intro x g h hh
  simp only [List.mem_cons,List.not_mem_nil,or_false] at hh
  rcases hh with rfl | rfl | rfl <;> first | exact z5u | exact z47
 ok:=by
  intro x g w o k hh
  refine ⟨rfl,?_⟩
  intro u hu
  simp only [List.mem_cons,List.not_mem_nil,or_false] at hu
  rcases hu with rfl | rfl | rfl <;> first | rfl | exact z7e (hh _ (.head _)) | exact z5f (hh _ (.head _)) | exact z7e (hh _ (.tail _ (.head _))) | exact z5f (hh _ (.tail _ (.head _))) | exact z7e (hh _ (.tail _ (.tail _ (.head _)))) | exact z5f (hh _ (.tail _ (.tail _ (.head _))))
instance:EncT zk:=⟨fun x=>.agg #[.string (bs x.name_),.int .i64 x.kind_]⟩
instance:Elt zk:=⟨fun v l=>row v 2 (l.map zk.enc),fun v l=>ro v 2 (l.map zk.enc)⟩
instance:Ef zk.enc 2:=⟨zk.enc_ok⟩
instance:Et 351 zk zk.enc:=⟨trivial⟩
instance {q0:List UInt8} {q1:Int}:De zk.enc (.agg #[.string (bs q0),.int .i64 q1]) (zk.mk q0 q1):=⟨rfl⟩
instance {q0:List UInt8} {q1:Int}:Dc zk.enc [.string (bs q0),.int .i64 q1] (zk.mk q0 q1):=⟨rfl⟩
instance:EncT zp:=⟨fun x=>.agg #[.string (bs x.Name),.string (bs x.Value)]⟩
instance:Elt zp:=⟨fun v l=>row v 2 (l.map zp.enc),fun v l=>ro v 2 (l.map zp.enc)⟩
instance:Ef zp.enc 2:=⟨zp.enc_ok⟩
instance:Et 58 zp zp.enc:=⟨trivial⟩
instance {q0:List UInt8} {q1:List UInt8}:De zp.enc (.agg #[.string (bs q0),.string (bs q1)]) (zp.mk q0 q1):=⟨rfl⟩
instance {q0:List UInt8} {q1:List UInt8}:Dc zp.enc [.string (bs q0),.string (bs q1)] (zp.mk q0 q1):=⟨rfl⟩
instance:EncT z1G:=⟨fun x=>.agg #[.string (bs x.Number),.string (bs x.Unit),.int .i64 x.At]⟩
instance:Elt z1G:=⟨fun v l=>row v 3 (l.map z1G.enc),fun v l=>ro v 3 (l.map z1G.enc)⟩
instance:Ef z1G.enc 3:=⟨z1G.enc_ok⟩
instance:Et 276 z1G z1G.enc:=⟨trivial⟩
instance {q0:List UInt8} {q1:List UInt8} {q2:Int}:De z1G.enc (.agg #[.string (bs q0),.string (bs q1),.int .i64 q2]) (z1G.mk q0 q1 q2):=⟨rfl⟩
instance {q0:List UInt8} {q1:List UInt8} {q2:Int}:Dc z1G.enc [.string (bs q0),.string (bs q1),.int .i64 q2] (z1G.mk q0 q1 q2):=⟨rfl⟩
instance:EncT z13:=⟨fun x=>.agg #[.int .i64 x.At,.int .i64 x.E]⟩
instance:Elt z13:=⟨fun v l=>row v 2 (l.map z13.enc),fun v l=>ro v 2 (l.map z13.enc)⟩
instance:Ef z13.enc 2:=⟨z13.enc_ok⟩
instance:Et 115 z13 z13.enc:=⟨trivial⟩
instance {q0:Int} {q1:Int}:De z13.enc (.agg #[.int .i64 q0,.int .i64 q1]) (z13.mk q0 q1):=⟨rfl⟩
instance {q0:Int} {q1:Int}:Dc z13.enc [.int .i64 q0,.int .i64 q1] (z13.mk q0 q1):=⟨rfl⟩
instance:EncT zo:=⟨fun x=>.agg #[.int .i64 x.Kind,.int .i64 x.At,.string (bs x.S)]⟩
instance:Elt zo:=⟨fun v l=>row v 3 (l.map zo.enc),fun v l=>ro v 3 (l.map zo.enc)⟩
instance:Ef zo.enc 3:=⟨zo.enc_ok⟩
instance:Et 215 zo zo.enc:=⟨trivial⟩
instance {q0:Int} {q1:Int} {q2:List UInt8}:De zo.enc (.agg #[.int .i64 q0,.int .i64 q1,.string (bs q2)]) (zo.mk q0 q1 q2):=⟨rfl⟩
instance {q0:Int} {q1:Int} {q2:List UInt8}:Dc zo.enc [.int .i64 q0,.int .i64 q1,.string (bs q2)] (zo.mk q0 q1 q2):=⟨rfl⟩
instance:EncT zC:=⟨fun x=>.agg #[.string (bs x.s_),.int .i64 x.at_]⟩
instance:Elt zC:=⟨fun v l=>row v 2 (l.map zC.enc),fun v l=>ro v 2 (l.map zC.enc)⟩
instance:Ef zC.enc 2:=⟨zC.enc_ok⟩
instance:Et 266 zC zC.enc:=⟨trivial⟩
instance {q0:List UInt8} {q1:Int}:De zC.enc (.agg #[.string (bs q0),.int .i64 q1]) (zC.mk q0 q1):=⟨rfl⟩
instance {q0:List UInt8} {q1:Int}:Dc zC.enc [.string (bs q0),.int .i64 q1] (zC.mk q0 q1):=⟨rfl⟩
instance:EncT z6:=⟨fun x=>.agg #[.int .i64 x.Op,.int .i64 x.A,.string (bs x.S)]⟩
instance:Elt z6:=⟨fun v l=>row v 3 (l.map z6.enc),fun v l=>ro v 3 (l.map z6.enc)⟩
instance:Ef z6.enc 3:=⟨z6.enc_ok⟩
instance:Et 82 z6 z6.enc:=⟨trivial⟩
instance {q0:Int} {q1:Int} {q2:List UInt8}:De z6.enc (.agg #[.int .i64 q0,.int .i64 q1,.string (bs q2)]) (z6.mk q0 q1 q2):=⟨rfl⟩
instance {q0:Int} {q1:Int} {q2:List UInt8}:Dc z6.enc [.int .i64 q0,.int .i64 q1,.string (bs q2)] (z6.mk q0 q1 q2):=⟨rfl⟩
instance:EncT zD:=⟨fun x=>.agg #[.bool x.is_,.int .i64 x.lo_,.int .i64 x.hi_]⟩
instance:Elt zD:=⟨fun v l=>row v 3 (l.map zD.enc),fun v l=>ro v 3 (l.map zD.enc)⟩
instance:Ef zD.enc 3:=⟨zD.enc_ok⟩
instance:Et 71 zD zD.enc:=⟨trivial⟩
instance {q0:Bool} {q1:Int} {q2:Int}:De zD.enc (.agg #[.bool q0,.int .i64 q1,.int .i64 q2]) (zD.mk q0 q1 q2):=⟨rfl⟩
instance {q0:Bool} {q1:Int} {q2:Int}:Dc zD.enc [.bool q0,.int .i64 q1,.int .i64 q2] (zD.mk q0 q1 q2):=⟨rfl⟩
instance:EncT zJ:=⟨fun x=>.agg #[.bool x.on_.is_,.int .i64 x.on_.lo_,.int .i64 x.on_.hi_,.bool x.end_.is_,.int .i64 x.end_.lo_,.int .i64 x.end_.hi_]⟩
instance:Elt zJ:=⟨fun v l=>row v 6 (l.map zJ.enc),fun v l=>ro v 6 (l.map zJ.enc)⟩
instance:Ef zJ.enc 6:=⟨zJ.enc_ok⟩
instance:Et 126 zJ zJ.enc:=⟨trivial⟩
instance {q0:Bool} {q1:Int} {q2:Int} {q3:Bool} {q4:Int} {q5:Int}:De zJ.enc (.agg #[.bool q0,.int .i64 q1,.int .i64 q2,.bool q3,.int .i64 q4,.int .i64 q5]) (zJ.mk (zD.mk q0 q1 q2) (zD.mk q3 q4 q5)):=⟨rfl⟩
instance {q0:Bool} {q1:Int} {q2:Int} {q3:Bool} {q4:Int} {q5:Int}:Dc zJ.enc [.bool q0,.int .i64 q1,.int .i64 q2,.bool q3,.int .i64 q4,.int .i64 q5] (zJ.mk (zD.mk q0 q1 q2) (zD.mk q3 q4 q5)):=⟨rfl⟩
instance:EncT zj:=⟨fun x=>.agg #[.int .i64 x.Type_,.int .i64 x.N,.string (bs x.S)]⟩
instance:Elt zj:=⟨fun v l=>row v 3 (l.map zj.enc),fun v l=>ro v 3 (l.map zj.enc)⟩
instance:Ef zj.enc 3:=⟨zj.enc_ok⟩
instance:Et 153 zj zj.enc:=⟨trivial⟩
instance {q0:Int} {q1:Int} {q2:List UInt8}:De zj.enc (.agg #[.int .i64 q0,.int .i64 q1,.string (bs q2)]) (zj.mk q0 q1 q2):=⟨rfl⟩
instance {q0:Int} {q1:Int} {q2:List UInt8}:Dc zj.enc [.int .i64 q0,.int .i64 q1,.string (bs q2)] (zj.mk q0 q1 q2):=⟨rfl⟩
instance:Eltn zG:=⟨z4a⟩
instance:Etn 25 zG z4a:=⟨trivial⟩
instance:Eltn (List UInt8):=⟨z7H⟩
instance:Etn 42 (List UInt8) z7H:=⟨trivial⟩
instance:Eltn zm:=⟨zE⟩
instance:Etn 63 zm zE:=⟨trivial⟩
instance:Eltn z7:=⟨zx⟩
instance:Etn 65 z7 zx:=⟨trivial⟩
instance:Eltn zl:=⟨z2O⟩
instance:Etn 139 zl z2O:=⟨trivial⟩
instance:Eltn z6h:=⟨z3r⟩
instance:Etn 223 z6h z3r:=⟨trivial⟩
instance:Eltn z7Z:=⟨z6F⟩
instance:Etn 228 z7Z z6F:=⟨trivial⟩
instance:Eltn z1d:=⟨z23⟩
instance:Etn 231 z1d z23:=⟨trivial⟩
instance:Eltn z6G:=⟨z5l⟩
instance:Etn 239 z6G z5l:=⟨trivial⟩
instance:Eltn z5t:=⟨z61⟩
instance:Etn 278 z5t z61:=⟨trivial⟩
instance:Eltn zK:=⟨zL⟩
instance:Etn 284 zK zL:=⟨trivial⟩
instance:Eltn zB:=⟨zF⟩
instance:Etn 286 zB zF:=⟨trivial⟩
instance:Eltn z8x:=⟨z71⟩
instance:Etn 295 z8x z71:=⟨trivial⟩
instance:Eltn z8y:=⟨z72⟩
instance:Etn 329 z8y z72:=⟨trivial⟩
instance {H:List HA} {v1 v2 v3:Value} {a b c:List Int} [h1:Ri H v1 a] [h2:Ri H v2 b] [h3:Ri H v3 c]:Nf z2O (.agg #[v1,v2,v3]) H (zl.mk a b c) (v1,v2,v3):=⟨rfl,zi9 h1 (zi9 h2 (zi9 h3 zgM))⟩
instance:Nzn z2O (zl.mk [] [] []) (.slice none 0 0,.slice none 0 0,.slice none 0 0):=⟨zky (zbF z8F (zbF z8F (zbF z8F zgM)))⟩
instance:Mn 3 139 Int zl (.int .i64) (fun n:Int=>Value.int .i64 n) z2O:=⟨trivial⟩
instance {q0 q1:List UInt8}:Dc zp.enc [.string (ByteArray.mk q0.toArray),.string (ByteArray.mk q1.toArray)] (zp.mk q0 q1):=⟨rfl⟩
instance:NewB zN:=⟨fun c v1 v2 v3 v4 v5=>[.int .i64 c.At,v1,v2,v3,v4,.int .i64 c.Out.Edge.Status,v5,.int .i64 c.Out.End,.string (bs c.Out.Text),.int .i64 c.Spent,.bool c.Over,.int .i64 c.E],
 fun c v1 v2 v3 v4 v5=>[row v1 3 (c.Stack.map zj.enc),row v2 3 (c.Slots.map zj.enc),row v3 1 (c.Loops.map (eInt .i64)),row v4 2 (c.Out.Edge.Headers.map zp.enc),row v5 1 (c.Out.Logs.map eStr)]⟩
theorem df_25 {a:List UInt8} {u w:Value} {l1:List Int} {l2:List z7}:Df z4a (.agg #[.string (bs a),u,w]) (zG.mk a l1 l2) (u,w) [ro u 1 (l1.map (eInt .i64)),nro w zx l2]:=⟨rfl,rfl⟩
theorem zht {a b:Int} {c:List UInt8} {u:Value} {l:List zK}:Df zL (.agg #[.int .i64 a,.int .i64 b,.string (bs c),u]) (zK.mk a b c l) u [nro u zL l]:=⟨rfl,by rw [TC.S_eq]; rfl⟩
theorem zhu {a b c d:Int} {s q:List UInt8} {u v w:Value} {l:List zK} {l1 l2:List zB}:Df zF (.agg #[.int .i64 a,.int .i64 b,.string (bs s),.int .i64 c,.int .i64 d,.string (bs q),u,v,w]) (zB.mk a b s (zK.mk c d q l) l1 l2) (u,v,w) [nro u zL l,nro v zF l1,nro w zF l2]:=⟨rfl,by rw [TC.S_eq]; rfl⟩
theorem zhs {a:List UInt8} {b:Int} {u w:Value} {l1:List Int} {l2:List zB}:Df z23 (.agg #[.string (bs a),.int .i64 b,u,w]) (z1d.mk a b l1 l2) (u,w) [ro u 1 (l1.map (eInt .i64)),nro w zF l2]:=⟨rfl,rfl⟩
theorem df_63 {a b c d:Int} {s:List UInt8} {u:Value} {l:List zm}:Df zE (.agg #[.int .i64 a,.int .i64 b,.int .i64 c,.int .i64 d,.string (bs s),u]) (zm.mk a b c d s l) u [nro u zE l]:=⟨rfl,by rw [TC.S_eq]; rfl⟩
theorem df_65 {a b c e f g h:Int} {s q:List UInt8} {u v w:Value} {l:List zm} {l1 l2:List z7}:Df zx (.agg #[.int .i64 a,.int .i64 b,.int .i64 c,.string (bs s),.int .i64 e,.int .i64 f,.int .i64 g,.int .i64 h,.string (bs q),u,v,w]) (z7.mk a b c s (zm.mk e f g h q l) l1 l2) (u,v,w) [nro u zE l,nro v zx l1,nro w zx l2]:=⟨rfl,by rw [TC.S_eq]; rfl⟩
theorem zhv {x:zK} {u:Value}:Df zL (.agg #[.int .i64 x.Op,.int .i64 x.At,.string (bs x.S),u]) x u [nro u zL x.Args]:=⟨rfl,by rw [TC.S_eq]; rfl⟩
theorem zhw {x:zB} {u v w:Value}:Df zF (.agg #[.int .i64 x.Kind,.int .i64 x.At,.string (bs x.Name),.int .i64 x.X.Op,.int .i64 x.X.At,.string (bs x.X.S),u,v,w]) x (u,v,w) [nro u zL x.X.Args,nro v zF x.Body,nro w zF x.Else]:=⟨rfl,by rw [TC.S_eq]; rfl⟩
theorem dg_63 {x:zm} {u:Value}:Df zE (.agg #[.int .i64 x.Op,.int .i64 x.Type_,.int .i64 x.N,.int .i64 x.Slot,.string (bs x.S),u]) x u [nro u zE x.Args]:=⟨rfl,by rw [TC.S_eq]; rfl⟩
theorem dg_65 {x:z7} {u v w:Value}:Df zx (.agg #[.int .i64 x.Kind,.int .i64 x.Slot,.int .i64 x.N,.string (bs x.Name),.int .i64 x.X.Op,.int .i64 x.X.Type_,.int .i64 x.X.N,.int .i64 x.X.Slot,.string (bs x.X.S),u,v,w]) x (u,v,w) [nro u zE x.X.Args,nro v zx x.Body,nro w zx x.Else]:=⟨rfl,by rw [TC.S_eq]; rfl⟩
end Go.Proofs.YtgjcniomhahgkaaGreatDoor
namespace Go.Proofs.YtgjcniomhahgkaaGreatDoor
open Go.Abs
set_option maxRecDepth 20000
set_option maxHeartbeats 2000000
def endX (e:Int):Option Unit:=cond (decide (e≠0)) (some ()) none
theorem zko {b:Nat} {e x0 x5 x7 x9 x11:Int} {x8:List UInt8} {x10:Bool} {p1 p2 p3 p4 p6 p12:Option Addr} {n1 n2 n3 n4 n6 n12 c1 c2 c3 c4 c6 c12:Nat} {r:Unit} (h:endX e=some r) :
  Meets Tryz.prog 34 [boxP b 0,.int .i64 e] [box b [.int .i64 x0,.slice p1 n1 c1,.slice p2 n2 c2,.slice p3 n3 c3,.slice p4 n4 c4,.int .i64 x5,.slice p6 n6 c6,.int .i64 x7,.string (bs x8),.int .i64 x9,.bool x10,.int .i64 x11,.slice p12 n12 c12]]
   (fun v G=>v = .tuple #[]∧G=[box b [.int .i64 0,.slice none 0 0,.slice none 0 0,.slice none 0 0,.slice none 0 0,.int .i64 100,.slice none 0 0,.int .i64 0,.string (bs []),.int .i64 x9,.bool true,.int .i64 e,.slice p12 n12 c12]]):=by
 unfold endX at h
 exact dfn .e Tryz.func34 Tryz.ntmps34 Tryz.results34 h
theorem zeB {w:World} {o:Go.Abs.Own} {k:Nat} {v:Value} {es:Nat} {l:List (List Value)} (h:(row v es l).p w o k):∃ p n c,v = .slice p n c:=by
 rcases h with ⟨⟨a,rfl⟩,_⟩ | ⟨b,off,cap,arr,T,fz,e,_⟩
 ·exact ⟨_,_,_,rfl⟩
 ·exact ⟨_,_,_,e⟩
theorem ro_sl {w:World} {o:Go.Abs.Own} {k:Nat} {v:Value} {es:Nat} {l:List (List Value)} (h:(ro v es l).p w o k):∃ p n c,v = .slice p n c:=by
 obtain ⟨a,cap,e,_⟩:=h; exact ⟨_,_,_,e⟩
theorem zjL {b:Nat} {H:List HA}:RecD Tryz.prog 88 [boxP b 0] .returning .returning H H:=by
 refine zbk Tryz.func88 rfl Tryz.ntmps88 rfl (fun w0 o0 c0 cf hu=>?_)
 refine z8p (z6a [0] rfl ?_)
 refine z6N (v:=.nilIface) (cs':=c0::cf) rfl rfl (by simp [recoverD,hu]) ?_
 refine z8m (z7s ?_)
 refine zeC (fun L hL=>?_)
 refine z7v (z7F (z3L ?_))
 refine ops_y (wn rfl) rfl (zgq (v:=.nilIface) (b:=true) Tryz.runUnderlying20 rfl (.inl ⟨rfl,rfl⟩)) ?_
 refine z6Z (z4F ?_)
 refine z7f rfl (z3L ?_)
 refine ops_y (wn rfl) rfl (z9Y rfl) ?_
 refine z6Z ?_
 refine z9E ?_
 exact fun a w r=>hL _ _ (leafS Tryz.results88 (congrArg (·::cf) (z9o hu))) a w r
theorem zjK {b rb:Nat} {e x0 x5 x7 x9 x11:Int} {x8:List UInt8} {x10:Bool} {v1 v2 v3 v4 v6 v12:Value} {l1 l2 l3 l4 l6 l12:List (List Value)} {H H' : List HA} {i j k1 k2 k3 k4 k6 k12:Nat} (he:e≠0) (hi:At H i (box b [boxP rb 0]))
  (hj:At H j (box rb [.int .i64 x0,v1,v2,v3,v4,.int .i64 x5,v6,.int .i64 x7,.string (bs x8),.int .i64 x9,.bool x10,.int .i64 x11,v12])) (h1:At H k1 (row v1 3 l1)) (h2:At H k2 (row v2 3 l2)) (h3:At H k3 (row v3 1 l3)) (h4:At H k4 (row v4 2 l4)) (h6:At H k6 (row v6 1 l6)) (h12:At H k12 (ro v12 3 l12))
  (hS:St H j (box rb [.int .i64 0,.slice none 0 0,.slice none 0 0,.slice none 0 0,.slice none 0 0,.int .i64 100,.slice none 0 0,.int .i64 0,.string (bs []),.int .i64 x9,.bool true,.int .i64 e,v12]) H') :
  RecD Tryz.prog 88 [boxP b 0] (.panicking [{ v:=(.iface 158 (.agg #[.int .i64 e])),recovered:=false }]) (.panicking [{ v:=(.iface 158 (.agg #[.int .i64 e])),recovered:=true }]) H H':=by
 intro w o hb hs
 obtain ⟨p1,n1,c1,rfl⟩:=zeB (hs _ _ h1.get)
 obtain ⟨p2,n2,c2,rfl⟩:=zeB (hs _ _ h2.get)
 obtain ⟨p3,n3,c3,rfl⟩:=zeB (hs _ _ h3.get)
 obtain ⟨p4,n4,c4,rfl⟩:=zeB (hs _ _ h4.get)
 obtain ⟨p6,n6,c6,rfl⟩:=zeB (hs _ _ h6.get)
 obtain ⟨p12,n12,c12,rfl⟩:=ro_sl (hs _ _ h12.get)
 have hj:=hj.get
 have hi:=hi.get
 rw [hS.eq.symm]
 refine (show RecD Tryz.prog 88 [boxP b 0] (.panicking [{ v:=(.iface 158 (.agg #[.int .i64 e])),recovered:=false }]) (.panicking [{ v:=(.iface 158 (.agg #[.int .i64 e])),recovered:=true }]) H _ from ?_) w o hb hs
 refine zbk Tryz.func88 rfl Tryz.ntmps88 rfl (fun w0 o0 c0 cf hu=>?_)
 refine z8p (z6a [0] rfl ?_)
 refine z6N (v:=(.iface 158 (.agg #[.int .i64 e]))) (cs':={ c0 with mode:=.panicking [{ v:=(.iface 158 (.agg #[.int .i64 e])),recovered:=true }] }::cf) rfl rfl (by simp [recoverD,hu]) ?_
 refine z8m (z7s ?_)
 refine zeC (fun L hL=>?_)
 refine z7v (z7F (z3L ?_))
 refine ops_y (wn rfl) rfl (zgq (v:=(.iface 158 (.agg #[.int .i64 e]))) (b:=false) Tryz.runUnderlying20 rfl (.inr ⟨⟨_,_,rfl⟩,rfl⟩)) ?_
 refine z6Z (z4F ?_)
 refine z8J rfl (z7F (z3L ?_))
 refine ops_y (wn rfl) rfl (zgo Tryz.runUnderlying158 rfl rfl) ?_
 refine ops_y (wn rfl) rfl (z86 rfl rfl) ?_
 refine ops_y (wn rfl) rfl (z86 rfl rfl) ?_
 refine z6Z (z4F ?_)
 refine z7f rfl (z7F (z3L ?_))
 refine ops_t (wn rfl) rfl (zh5 Tryz.zeroValue158) ?_
 rintro _ _ ⟨z,rfl,rfl⟩
 refine ops_t (wn rfl) rfl (zd2 (b:=z) (c:=[.int .i64 e]) H.length Tryz.sizeOf158 rfl rfl (zeb rfl) rfl rfl (by simp [Value.oneCell'])) ?_
 rintro _ _ ⟨rfl,rfl⟩
 rw [show (H++[box z (Value.agg #[Value.int IntKind.i64 0]).cells.toList]).set H.length (box z [.int .i64 e])=H++[box z [.int .i64 e]] by simp]
 refine z6Z (z4F ?_)
 refine z3L ?_
 refine ops_y (wn rfl) rfl (za3 (r:=boxP rb 0) i Tryz.isAgg87 rfl (zcg hi) rfl) ?_
 refine ops_y (wn rfl) rfl (z8f Tryz.runUnderlying158 rfl Tryz.sizeOf33 rfl) ?_
 refine ops_y (wn rfl) rfl (za3 (r:=.int .i64 e) H.length Tryz.isAgg33 rfl (zeb rfl) rfl) ?_
 refine ops_t (wn rfl) rfl (z9Q (vs:=[boxP rb 0,.int .i64 e]) (cs:=[]) [(j,2)] rfl Tryz.call34 rfl (zko (r:=()) (by unfold endX; simp [he])) (z4E j (zcg hj) z7h) (by simp [okX]) (.inl rfl)) ?_
 rintro _ _ ⟨G,⟨rfl,rfl⟩,rfl⟩
 refine z6Z (z9E ?_)
 have hjl:j<H.length:=(List.getElem?_eq_some_iff.1 hj).1
 refine z9n (H':=H.set j (box rb [.int .i64 0,.slice none 0 0,.slice none 0 0,.slice none 0 0,.slice none 0 0,.int .i64 100,.slice none 0 0,.int .i64 0,.string (bs []),.int .i64 x9,.bool true,.int .i64 e,.slice p12 n12 c12])) ?_ ?_
 ·have h:=zgj (A:=H++[box z [.int .i64 e]]) (g:=box rb [.int .i64 0,.slice none 0 0,.slice none 0 0,.slice none 0 0,.slice none 0 0,.int .i64 100,.slice none 0 0,.int .i64 0,.string (bs []),.int .i64 x9,.bool true,.int .i64 e,.slice p12 n12 c12]) (j:=j) (by simp; omega)
  refine h.trans ?_
  rw [zfz hj]
  exact zgk
 ·exact fun a w r=>hL _ _ (leafS Tryz.results88 rfl) a w r
instance:RecK Tryz.prog 88 0 (∀ {b:Nat} {H:List HA},RecD Tryz.prog 88 [boxP b 0] .returning .returning H H):=⟨Tryz.call88,zjL⟩
instance:RecK Tryz.prog 88 1 (∀ {b rb:Nat} {e x0 x5 x7 x9 x11:Int} {x8:List UInt8} {x10:Bool} {v1 v2 v3 v4 v6 v12:Value} {l1 l2 l3 l4 l6 l12:List (List Value)} {H H' : List HA} {i j k1 k2 k3 k4 k6 k12:Nat},e≠0→At H i (box b [boxP rb 0])→
 At H j (box rb [.int .i64 x0,v1,v2,v3,v4,.int .i64 x5,v6,.int .i64 x7,.string (bs x8),.int .i64 x9,.bool x10,.int .i64 x11,v12])→At H k1 (row v1 3 l1)→At H k2 (row v2 3 l2)→At H k3 (row v3 1 l3)→At H k4 (row v4 2 l4)→At H k6 (row v6 1 l6)→At H k12 (ro v12 3 l12)→
 St H j (box rb [.int .i64 0,.slice none 0 0,.slice none 0 0,.slice none 0 0,.slice none 0 0,.int .i64 100,.slice none 0 0,.int .i64 0,.string (bs []),.int .i64 x9,.bool true,.int .i64 e,v12]) H'→
 RecD Tryz.prog 88 [boxP b 0] (.panicking [{ v:=(.iface 158 (.agg #[.int .i64 e])),recovered:=false }]) (.panicking [{ v:=(.iface 158 (.agg #[.int .i64 e])),recovered:=true }]) H H'):=⟨Tryz.call88,zjK⟩
end Go.Proofs.YtgjcniomhahgkaaGreatDoor
namespace Go.Proofs.YtgjcniomhahgkaaGreatDoor
open Go.Abs
set_option maxRecDepth 20000
set_option maxHeartbeats 2000000
def exprs (x:zm):Option Unit:=some ()
instance exprs_k:Con Tryz.prog 95 0 (∀ {x_0:zm} {x_0_Argsv:Value} {r:Unit},exprs x_0=some r→Meets Tryz.prog 95 [.agg #[.int .i64 x_0.Op,.int .i64 x_0.Type_,.int .i64 x_0.N,.int .i64 x_0.Slot,.string (bs x_0.S),x_0_Argsv]] [nro x_0_Argsv zE x_0.Args] (fun v G=>∃ v0,v = .func (.func 126) #[] #[boxP v0 0]∧G=[box v0 [.int .i64 x_0.Op,.int .i64 x_0.Type_,.int .i64 x_0.N,.int .i64 x_0.Slot,.string (bs x_0.S),x_0_Argsv]])):=⟨Tryz.call95,by
 intros; rename_i h; unfold exprs at h
 exact dfn .e Tryz.func95 Tryz.ntmps95 Tryz.results95 h⟩
abbrev itE_L {S:Type} (rec:S→zm→Option S) (a:zm):(Int×S)→Option (Lp (Int×S) S):=fun (i,s)=>
 cond (decide (i<(a.Args.length:Int)))
  (idx a.Args i fun x=>
  obind (exprs x) fun _=>
  obind (rec s x) fun s'=>
  some (.go ((IntKind.i64.wrap (i+1)),s')))
  (some (.stop s))
def z9F {S:Type} (n:Nat) (rec:S→zm→Option S) (step:S→zm→Option S) (s:S) (x:zm):Option S:=
 obind (step s x) fun s'=>
 iter (itE_L rec x) n (0,s')
def itE {S:Type} (step:S→zm→Option S):Nat→S→zm→Option S
 | 0=>fun _ _=>none
 | n+1=>z9F n (itE step n) step
theorem zcT {S:Type} {n:Nat} {rec:S→zm→Option S} {step:S→zm→Option S}
  [Con Tryz.prog 126 9 (∀ {l:Nat} {A:S→HA} {s r:S} {x:zm} {b:Nat} {v:Value},rec s x=some r→Ysp Tryz.prog l A step (fun x v=>.agg #[.int .i64 x.Op,.int .i64 x.Type_,.int .i64 x.N,.int .i64 x.Slot,.string (bs x.S),v]) (fun x v=>[nro v zE x.Args])→Meets Tryz.prog 126 [.func (.yield l) #[] #[],boxP b 0] [A s,box b [.int .i64 x.Op,.int .i64 x.Type_,.int .i64 x.N,.int .i64 x.Slot,.string (bs x.S),v],nro v zE x.Args] (fun v' G=>v' = .tuple #[]∧G=[A r,box b [.int .i64 x.Op,.int .i64 x.Type_,.int .i64 x.N,.int .i64 x.Slot,.string (bs x.S),v]]))] :
  ∀ {l:Nat} {A:S→HA} {s r:S} {x:zm} {b:Nat} {v:Value},z9F n rec step s x=some r→Ysp Tryz.prog l A step (fun x v=>.agg #[.int .i64 x.Op,.int .i64 x.Type_,.int .i64 x.N,.int .i64 x.Slot,.string (bs x.S),v]) (fun x v=>[nro v zE x.Args])→Meets Tryz.prog 126 [.func (.yield l) #[] #[],boxP b 0] [A s,box b [.int .i64 x.Op,.int .i64 x.Type_,.int .i64 x.N,.int .i64 x.Slot,.string (bs x.S),v],nro v zE x.Args] (fun v' G=>v' = .tuple #[]∧G=[A r,box b [.int .i64 x.Op,.int .i64 x.Type_,.int .i64 x.N,.int .i64 x.Slot,.string (bs x.S),v]]):=by
 intros; rename_i h hy; unfold z9F at h
 exact dfn (.l 0 [1,2,11,12] [(13,.i .i64 1)] [.w 2 0,.k 1,.k 2,.k 3] (.c (.j 0 [] [] [.w 0 0,.k 3] .e .e) .e)) Tryz.func126 Tryz.ntmps126 Tryz.results126 h
theorem zno {S:Type} {step:S→zm→Option S} {n:Nat}:∀ {l:Nat} {A:S→HA} {s r:S} {x:zm} {b:Nat} {v:Value},itE step n s x=some r→Ysp Tryz.prog l A step (fun x v=>.agg #[.int .i64 x.Op,.int .i64 x.Type_,.int .i64 x.N,.int .i64 x.Slot,.string (bs x.S),v]) (fun x v=>[nro v zE x.Args])→Meets Tryz.prog 126 [.func (.yield l) #[] #[],boxP b 0] [A s,box b [.int .i64 x.Op,.int .i64 x.Type_,.int .i64 x.N,.int .i64 x.Slot,.string (bs x.S),v],nro v zE x.Args] (fun v' G=>v' = .tuple #[]∧G=[A r,box b [.int .i64 x.Op,.int .i64 x.Type_,.int .i64 x.N,.int .i64 x.Slot,.string (bs x.S),v]]):=by
 induction n with
 | zero=>intro _ _ _ _ _ _ _ h; cases h
 | succ n ih=>exact @zcT S n (itE step n) step ⟨Tryz.call126,ih⟩
instance itE_k:Con Tryz.prog 126 0 (∀ {S:Type} {step:S→zm→Option S} {n:Nat} {l:Nat} {A:S→HA} {s r:S} {x:zm} {b:Nat} {v:Value},itE step n s x=some r→Ysp Tryz.prog l A step (fun x v=>.agg #[.int .i64 x.Op,.int .i64 x.Type_,.int .i64 x.N,.int .i64 x.Slot,.string (bs x.S),v]) (fun x v=>[nro v zE x.Args])→Meets Tryz.prog 126 [.func (.yield l) #[] #[],boxP b 0] [A s,box b [.int .i64 x.Op,.int .i64 x.Type_,.int .i64 x.N,.int .i64 x.Slot,.string (bs x.S),v],nro v zE x.Args] (fun v' G=>v' = .tuple #[]∧G=[A r,box b [.int .i64 x.Op,.int .i64 x.Type_,.int .i64 x.N,.int .i64 x.Slot,.string (bs x.S),v]])):=⟨Tryz.call126,zno⟩
abbrev zmz (n:Int) (x:zm):Option Int:=some (IntKind.i64.wrap (n+1))
def costP (n:Nat) (x:zm):Option Int:=
 obind (exprs x) fun _=>
 obind (itE zmz n 0 x) fun r=>
 some r
theorem zhq {n:Nat} {x:zm} {v0:Value} {r:Int} (h:costP n x=some r):Meets Tryz.prog 149 [.agg #[.int .i64 x.Op,.int .i64 x.Type_,.int .i64 x.N,.int .i64 x.Slot,.string (bs x.S),v0]] [nro v0 zE x.Args] (fun v G=>v = .int .i64 r∧G=[]):=by
 unfold costP at h
 exact dfn (.j 0 [] [] [.b 2 [.i .i64 0]] .e .e) Tryz.func149 Tryz.ntmps149 Tryz.results149 h
abbrev zac:NC (List z7) where
 G:=Value
 es:=1
 F:=fun x g=>[g]
 S:=fun x g=>[nro g zx x]
 free:=by
  intro x g h hh
  simp only [List.mem_cons,List.not_mem_nil,or_false] at hh
  rcases hh with rfl; exact z47
 ok:=by
  intro x g w o k hh
  refine ⟨rfl,?_⟩
  intro u hu
  simp only [List.mem_cons,List.not_mem_nil,or_false] at hu
  rcases hu with rfl; exact z5f (hh _ (.head _))
instance:Eltn (List z7):=⟨zac⟩
instance:Etn 23 (List z7) zac:=⟨trivial⟩
def stmts (l:List z7):Option Unit:=some ()
instance stmts_k:Con Tryz.prog 93 0 (∀ {l_0:List z7} {l_0v:Value} {r:Unit},stmts l_0=some r→Meets Tryz.prog 93 [l_0v] [nro l_0v zx l_0] (fun v G=>∃ v0,v = .func (.func 125) #[] #[boxP v0 0]∧G=[box v0 [l_0v]])):=⟨Tryz.call93,by
 intros; rename_i h; unfold stmts at h
 exact dfn .e Tryz.func93 Tryz.ntmps93 Tryz.results93 h⟩
abbrev zfI {S:Type} (rec:S→List z7→Option S) (y:z7):(Int×S)→Option (Lp (Int×S) (Lp S (Lp (Int×S) S))):=fun (j,s)=>
 cond (decide (j<(([y.Body,y.Else]:List (List z7)).length:Int)))
  (idx ([y.Body,y.Else]:List (List z7)) j fun l=>
  obind (stmts l) fun _=>
  obind (rec s l) fun s'=>
  some (.go ((IntKind.i64.wrap (j+1)),s')))
  (some (.stop (.go s)))
abbrev zfH {S:Type} (n:Nat) (rec:S→List z7→Option S) (step:S→z7→Option S) (l:List z7):(Int×S)→Option (Lp (Int×S) S):=fun (i,s)=>
 cond (decide (i<(l.length:Int)))
  (bindJ (S:=S)
   (idx l i fun y=>
   obind (step s y) fun s'=>
   iter (zfI rec y) n (0,s'))
  (fun s'=>
   some (.go ((IntKind.i64.wrap (i+1)),s'))))
  (some (.stop s))
def z9G {S:Type} (n:Nat) (rec:S→List z7→Option S) (step:S→z7→Option S) (s:S) (l:List z7):Option S:=
 iter (zfH n rec step l) n (0,s)
def itS {S:Type} (step:S→z7→Option S):Nat→S→List z7→Option S
 | 0=>fun _ _=>none
 | n+1=>z9G n (itS step n) step
theorem zcU {S:Type} {n:Nat} {rec:S→List z7→Option S} {step:S→z7→Option S}
  [Con Tryz.prog 125 9 (∀ {l:Nat} {A:S→HA} {s r:S} {x:List z7} {b:Nat} {v:Value},rec s x=some r→Ysp Tryz.prog l A step (fun x (g:Value×Value×Value)=>.agg #[.int .i64 x.Kind,.int .i64 x.Slot,.int .i64 x.N,.string (bs x.Name),.int .i64 x.X.Op,.int .i64 x.X.Type_,.int .i64 x.X.N,.int .i64 x.X.Slot,.string (bs x.X.S),g.1,g.2.1,g.2.2]) (fun x g=>[nro g.1 zE x.X.Args,nro g.2.1 zx x.Body,nro g.2.2 zx x.Else])→Meets Tryz.prog 125 [.func (.yield l) #[] #[],boxP b 0] [A s,box b [v],nro v zx x] (fun v' G=>v' = .tuple #[]∧G=[A r,box b [v]]))] :
  ∀ {l:Nat} {A:S→HA} {s r:S} {x:List z7} {b:Nat} {v:Value},z9G n rec step s x=some r→Ysp Tryz.prog l A step (fun x (g:Value×Value×Value)=>.agg #[.int .i64 x.Kind,.int .i64 x.Slot,.int .i64 x.N,.string (bs x.Name),.int .i64 x.X.Op,.int .i64 x.X.Type_,.int .i64 x.X.N,.int .i64 x.X.Slot,.string (bs x.X.S),g.1,g.2.1,g.2.2]) (fun x g=>[nro g.1 zE x.X.Args,nro g.2.1 zx x.Body,nro g.2.2 zx x.Else])→Meets Tryz.prog 125 [.func (.yield l) #[] #[],boxP b 0] [A s,box b [v],nro v zx x] (fun v' G=>v' = .tuple #[]∧G=[A r,box b [v]]):=by
 intros; rename_i h hy; unfold z9G at h
 exact dfn (.l 0 [1,2,8,9] [(10,.i .i64 1)] [.w 2 0,.k 1,.k 2,.k 3] (.c (.j 0 [1,2,8,9,10] [] [.w 0 0,.k 1,.k 2,.k 3] (.l 0 [1,2,8,9,10,22,23] [(24,.i .i64 1)] [.w 2 0,.k 1,.k 2,.k 3,.z 9] (.c (.j 0 [] [] [.w 0 0,.k 3] .e .e) .e)) .e) .e)) Tryz.func125 Tryz.ntmps125 Tryz.results125 h
theorem znp {S:Type} {step:S→z7→Option S} {n:Nat}:∀ {l:Nat} {A:S→HA} {s r:S} {x:List z7} {b:Nat} {v:Value},itS step n s x=some r→Ysp Tryz.prog l A step (fun x (g:Value×Value×Value)=>.agg #[.int .i64 x.Kind,.int .i64 x.Slot,.int .i64 x.N,.string (bs x.Name),.int .i64 x.X.Op,.int .i64 x.X.Type_,.int .i64 x.X.N,.int .i64 x.X.Slot,.string (bs x.X.S),g.1,g.2.1,g.2.2]) (fun x g=>[nro g.1 zE x.X.Args,nro g.2.1 zx x.Body,nro g.2.2 zx x.Else])→Meets Tryz.prog 125 [.func (.yield l) #[] #[],boxP b 0] [A s,box b [v],nro v zx x] (fun v' G=>v' = .tuple #[]∧G=[A r,box b [v]]):=by
 induction n with
 | zero=>intro _ _ _ _ _ _ _ h; cases h
 | succ n ih=>exact @zcU S n (itS step n) step ⟨Tryz.call125,ih⟩
instance itS_k:Con Tryz.prog 125 0 (∀ {S:Type} {step:S→z7→Option S} {n:Nat} {l:Nat} {A:S→HA} {s r:S} {x:List z7} {b:Nat} {v:Value},itS step n s x=some r→Ysp Tryz.prog l A step (fun x (g:Value×Value×Value)=>.agg #[.int .i64 x.Kind,.int .i64 x.Slot,.int .i64 x.N,.string (bs x.Name),.int .i64 x.X.Op,.int .i64 x.X.Type_,.int .i64 x.X.N,.int .i64 x.X.Slot,.string (bs x.X.S),g.1,g.2.1,g.2.2]) (fun x g=>[nro g.1 zE x.X.Args,nro g.2.1 zx x.Body,nro g.2.2 zx x.Else])→Meets Tryz.prog 125 [.func (.yield l) #[] #[],boxP b 0] [A s,box b [v],nro v zx x] (fun v' G=>v' = .tuple #[]∧G=[A r,box b [v]])):=⟨Tryz.call125,znp⟩
end Go.Proofs.YtgjcniomhahgkaaGreatDoor
namespace Go.Proofs.YtgjcniomhahgkaaGreatDoor
open Go.Abs
set_option maxRecDepth 20000
set_option maxHeartbeats 2000000
structure zb2 where
 effects_:List (Int×Bool)
 reads_:List (List UInt8×Bool)
 writes_:List (List UInt8×Bool)
 status_:Bool
def z9z (k:Int):Option Int:=
 some ((mget (mput (mput (mput (mput (mput ([]:(List (Int×Int))) (3:Int) (2:Int)) (4:Int) (3:Int)) (7:Int) (4:Int)) (8:Int) (5:Int)) (9:Int) (6:Int)) k).getD 0)
instance effectOf_k:Con Tryz.prog 94 0 (∀ {k:Int} {r:Int},z9z k=some r→Meets Tryz.prog 94 [.int .i64 k] [] (fun v G=>v = .int .i64 r∧G=[])):=⟨Tryz.call94,by
 intros; rename_i h; unfold z9z at h
 exact dfn .e Tryz.func94 Tryz.ntmps94 Tryz.results94 h⟩
abbrev zc7:(List (Int×Bool)×List (List UInt8×Bool)×Bool)→zm→Option (List (Int×Bool)×List (List UInt8×Bool)×Bool):=
 fun (m1,m2,st) x=>
  cond (decide (x.Op=6))
   (some ((mput m1 (1:Int) true),(mput m2 x.S true),st))
   (cond (decide (x.Op=7))
    (some ((mput m1 (1:Int) true),m2,true))
    (some (m1,m2,st)))
abbrev zc8 (n:Nat):(List (Int×Bool)×List (List UInt8×Bool)×List (List UInt8×Bool)×Bool)→z7→Option (List (Int×Bool)×List (List UInt8×Bool)×List (List UInt8×Bool)×Bool):=
 fun (m1,m2,m3,st) y=>
  bindJ (S:=List (Int×Bool))
   (obind (z9z y.Kind) fun e=>
   cond (decide (e≠0))
    (some (.go (mput m1 e true)))
    (some (.go m1)))
  (fun m1=>
   bindJ (S:=List (List UInt8×Bool))
    (cond (decide (y.Kind=3))
     (some (.go (mput m3 y.Name true)))
     (some (.go m3)))
   (fun m3=>
    obind (exprs y.X) fun _=>
    obind (itE zc7 n (m1,m2,st) y.X) fun q=>
    some (q.1,q.2.1,m3,q.2.2)))
def findP (n n2:Nat) (p:zG):Option zb2:=
 obind (z3e n p) fun r=>
 cond (!r)
  (some (zb2.mk [] [] [] false))
  (obind (stmts p.Code) fun _=>
  obind (itS (zc8 n2) n2 ([],[],[],false) p.Code) fun q=>
  some (zb2.mk q.1 q.2.1 q.2.2.1 q.2.2.2))
theorem zi2 [Con Tryz.prog 47 0 (∀ {n:Nat} {p_0:zG} {p_0_Effectsv:Value} {p_0_Codev:Value} {r:Bool},z3e n p_0=some r→Meets Tryz.prog 47 [.agg #[.string (bs p_0.Name),p_0_Effectsv,p_0_Codev]] [ro p_0_Effectsv 1 (p_0.Effects.map (eInt .i64)),nro p_0_Codev zx p_0.Code] (fun v G=>v = .bool r∧G=[]))] {n n2:Nat} {p:zG} {v0 v1:Value} {r:zb2} (h:findP n n2 p=some r) :
  Meets Tryz.prog 41 [.agg #[.string (bs p.Name),v0,v1]] [ro v0 1 (p.Effects.map (eInt .i64)),nro v1 zx p.Code] (fun v G=>∃ m0 m1 m2,v = .agg #[.map (some m0),.map (some m1),.map (some m2),.bool r.status_]∧G=[mapis m0 (mcells (fun n:Int=>Value.int .i64 n) (fun b:Bool=>Value.bool b) r.effects_)]):=by
 unfold findP at h
 exact dfn (.c .e (.j 0 [] [] [.p 4 1,.p 5 3,.p 6 5,.b 7 [.k,.k,.k,.t 6]]
  (.j 0 [3,4] [] [.p 0 0,.k 1,.k 2,.k 3,.k 4,.k 5,.k 6,.k 7] .e (.j 0 [3,4] [] [.k 0,.k 1,.p 2 0,.k 3,.k 4,.k 5,.k 6,.k 7] .e
   (.j 0 [] [] [.p 0 1,.p 1 3,.b 3 [.k,.k,.k,.t 4]] (.c (.d [0,1,2,3,4,5,6,7] [0,1] [.t,.t,.t,.t,.t,.t,.f,.f] [] .e) .e) .e))) .e)) Tryz.func41 Tryz.ntmps41 Tryz.results41 h
end Go.Proofs.YtgjcniomhahgkaaGreatDoor
namespace Go.Proofs.YtgjcniomhahgkaaGreatDoor
open Go.Abs
set_option maxRecDepth 20000
set_option maxHeartbeats 2000000
abbrev kI:Int→Value:=fun n=>.int .i64 n
abbrev kB:Bool→Value:=fun b=>.bool b
abbrev Ord (m:List (Int×Bool)):Type:={ ks:List Int // ks.Perm (m.map (·.1)) }
theorem zkE {S:Type} {step:S→Int→Option S} {f:S→Int→S} {A:S→HA} {l b r0:Nat} {m:List (Int×Bool)} {s:S} (ht:∀ (dn:List Int) x,dn.length<m.length→step (dn.foldl f s) x=some (f (dn.foldl f s) x)) (hy:Ysp Tryz.prog l A step (fun (x:Int) (_:Unit)=>.int .i64 x) (fun _ _=>[])) :
  Meets Tryz.prog 92 [.func (.yield l) #[] #[],boxP b 0] [A s,box b [mapV r0],mapis r0 (mcells kI kB m)] (fun v G=>v = .tuple #[]∧∃ ks:Ord m,G=[A (ks.1.foldl f s),box b [mapV r0]]):=by
 refine z9l Tryz.func92 rfl Tryz.ntmps92 rfl fun w0 o0=>?_
 refine z6Q [(0,.func (.yield l) #[] #[]),(1,boxP b 0)] [0,1,2] [A s,box b [mapV r0],mapis r0 (mcells kI kB m)] (by intro x hx; simp only [List.mem_cons,List.not_mem_nil,or_false] at hx; rcases hx with rfl | rfl <;> rfl) (by decide) rfl ?_
 refine zh ?_
 refine zq yr ?_
 refine zt (zly (kt:=3) (el:=4) 2 (by kernel_rfl) rfl rfl) ?_
 rintro _ _ ⟨it,rfl,rfl⟩
 refine zd ?_
 refine z7v ?_
 refine z90 ((S×List Int)×List (Int×Bool)) (fun x=>[(0,.func (.yield l) #[] #[]),(5,boxP it 0)]) (fun x=>[A x.1.1,mapit kI kB it r0 none x.2,box b [mapV r0]])
  (fun x=>x.1.1=x.1.2.foldl f s∧(x.1.2++x.2.map (·.1)).Perm (m.map (·.1))) (fun x=>x.2.length) [0,2,1] ((s,[]),m) (by intro x hx; simp only [List.mem_cons,List.not_mem_nil,or_false] at hx; rcases hx with rfl | rfl <;> rfl) (by decide) rfl ⟨rfl,by simp⟩ ?_
 rintro ⟨⟨s1,dn⟩,left⟩ ⟨h1,h2⟩ Lf hL
 dsimp only at h1 h2 ⊢
 refine zh ?_
 refine zt (zo2 1 rfl rfl) ?_
 rintro _ _ (⟨hl,rfl,rfl⟩ | ⟨p,l1,l2,hl,rfl,rfl⟩)
 ·subst hl
  refine zq (z86 rfl rfl) ?_
  refine zc ?_
  refine z8J rfl ?_
  refine zeE _ rfl ?_
  refine zdY ?_
  refine ft [] [0,2] Tryz.results92 (hp:=⟨rfl,⟨dn,by simpa using h2⟩,by rw [h1]⟩)
 ·refine zq (z86 rfl rfl) ?_
  refine zc ?_
  refine z7f rfl ?_
  refine zeG ?_
  refine z4F ?_
  refine z7v ?_
  refine zh ?_
  refine zq (zlI 1 rfl rfl) ?_
  refine zq (z86 rfl rfl) ?_
  refine zq yr ?_
  refine zd ?_
  refine z9O (uncur 1 rfl) ?_
  refine z6Q [(0,.func (.yield l) #[] #[]),(3,.int .i64 p.1),(5,boxP it 0)] [0,1,2] [A s1,mapit kI kB it r0 none (l1++l2),box b [mapV r0]] (by intro x hx; simp only [List.mem_cons,List.not_mem_nil,or_false] at hx; rcases hx with rfl | rfl | rfl <;> rfl) (by decide) rfl ?_
  have hb:Bk (R:=Unit) (EnvF Tryz.prog 14 w0 o0 Tryz.f92 (fun v G=>v = .tuple #[]∧∃ ks:Ord m,G=[A (ks.1.foldl f s),box b [mapV r0]])) (fun (x:S) (_:Unit)=>[(0,.func (.yield l) #[] #[]),(5,boxP it 0)]) (fun x _=>[A x,mapit kI kB it r0 none (l1++l2),box b [mapV r0]]) (.go (f s1 p.1)) Lf:=⟨fun s' _ hs a w hr=>by
   cases hs
   refine hL ((f s1 p.1,dn++[p.1]),l1++l2) ⟨by simp [h1],?_⟩ (by rw [hl]; simp) a w hr
   refine List.Perm.trans ?_ h2
   rw [hl]
   simp only [List.map_append,List.map_cons,List.append_assoc,List.cons_append,List.nil_append]
   exact List.Perm.append_left _ List.perm_middle.symm⟩
  refine DR.out (X:=obind (step s1 p.1) fun s2=>some (Lp.go (R:=Unit) s2)) (g:=.e) (r:=Lp.go (f s1 p.1)) ?_ (by
   have h3:=h2.length_eq
   rw [hl] at h3
   simp only [List.length_append,List.length_map,List.length_cons] at h3
   rw [h1,ht dn p.1 (by omega)]; rfl)
  exact go
theorem z9D:∀ (l s:List Int),l.foldl (fun s x=>s++[x]) s=s++l
 | [],s=>by simp
 | x::l,s=>by rw [List.foldl_cons,z9D l]; simp
theorem zfh {b r0:Nat} {m:List (Int×Bool)} (hm:m.length≤4294967296):Meets Tryz.prog 122 [.slice none 0 0,.func (.func 92) #[] #[boxP b 0]] [box b [mapV r0],mapis r0 (mcells kI kB m)] (fun v G=>∃ (ks:Ord m) (v0:Value),v=v0∧G=[row v0 1 (ks.1.map (eInt .i64))]):=by
 refine z9l Tryz.func122 rfl Tryz.ntmps122 rfl fun w0 o0=>?_
 refine z6Q [(0,.slice none 0 0),(1,.func (.func 92) #[] #[boxP b 0])] [0,1] [box b [mapV r0],mapis r0 (mcells kI kB m)] (by intro x hx; simp only [List.mem_cons,List.not_mem_nil,or_false] at hx; rcases hx with rfl | rfl <;> rfl) (by decide) rfl ?_
 refine zh ?_
 refine zt (t_box rfl) ?_
 rintro _ _ ⟨b2,rfl,rfl⟩
 refine zq yr ?_
 refine zc ?_
 refine zh ?_
 refine zq yr ?_
 refine zd ?_
 refine z7v ?_
 refine z9O (nilrow 1) ?_
 refine z8L (S:=List Int) (X:=Int) (G:=Value) (ps:=[7]) (caps:=[boxP b 0]) (gf:=92) (Hs:=fun s γ=>[box b2 [γ],row γ 1 (s.map (eInt .i64))]) (step:=fun s x=>need (s.length+([x]:List Int).length≤4294967296) (some (s++[x]))) (Fs:=fun _=>[]) (fun x=>[.int .i64 x]) [] (.slice none 0 0) [2,3] [(0,2),(1,2)] (Hc:=[box b [mapV r0],mapis r0 (mcells kI kB m)]) (Gr:=[box b [mapV r0]]) (Q:=fun r=>∃ ks:Ord m,r=ks.1)
  (ein_n rfl) rfl Tryz.call92 (fun _=>rfl) rfl (by decide) rfl (fun _=>zdR) ?_ ?_ ?_ rfl rfl ?_ (fun _=>rfl)
 ·intro l s x s' hst g w1 o1 Lf hi hL
  have hr:=Rdy.mk hL
  refine z6Q [(7,.int .i64 x),(2,boxP b2 0)] [0,1] [box b2 [g],row g 1 (s.map (eInt .i64))] (by intro x hx; simp only [List.mem_cons,List.not_mem_nil,or_false] at hx; rcases hx with rfl | rfl <;> rfl) (by decide) rfl ?_
  refine DR.out (X:=need (s.length+([x]:List Int).length≤4294967296) (some (s++[x]))) (g:=.e) (r:=s') ?_ hst
  exact go
 ·intro l A hy
  refine (zkE (f:=fun s x=>s++[x]) (step:=fun s x=>need (s.length+([x]:List Int).length≤4294967296) (some (s++[x]))) (fun dn x h=>by
   rw [z9D]; exact zW (show dn.length+1≤4294967296 by omega) _) ⟨fun _ _=>zdR,fun s x _ s' h=>hy s x s' h⟩).weaken ?_
  rintro v G ⟨h1,ks,h2⟩
  refine ⟨h1,ks.1,⟨ks,rfl⟩,?_⟩
  rw [h2,z9D]; simp
 ·exact z4E 0 rfl (z4E 1 rfl z7h)
 ·rintro r ⟨ks,rfl⟩ g
  refine zfF [(2,boxP b2 0)] [5,6] [box b2 [g],row g 1 (ks.1.map (eInt .i64))] (by intro x hx; simp only [List.mem_cons,List.not_mem_nil,or_false] at hx; rcases hx with rfl; rfl) (by decide) rfl ?_
  refine z9E ?_
  refine ze ?_
  refine zq yr ?_
  refine zq yr ?_
  refine zd ?_
  refine zh2 ?_
  exact ft [4] [1] Tryz.results122 (hp:=⟨ks,g,rfl,rfl⟩)
end Go.Proofs.YtgjcniomhahgkaaGreatDoor
