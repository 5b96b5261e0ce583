/-
  Functions of the program, lifted: part 1.
-/
import Derived.Test.YtcmaoifiiigggaaGreatDoorV8M3
import Derived.Test.YtcmaoifiiigggaaGreatDoorChecked
set_option linter.unusedSimpArgs false
set_option linter.unusedVariables false
namespace Go.Proofs.YtcmaoifiiigggaaGreatDoor
open Go.Abs Tryz
set_option maxRecDepth 20000
set_option maxHeartbeats 4000000
structure z1r where
 Number:(List UInt8)
 Unit:(List UInt8)
 At:Int
 deriving DecidableEq,Repr
def z1r.enc (x:z1r):List Value:=[.string (bs x.Number),.string (bs x.Unit),.int .i64 x.At]
theorem z1r.enc_ok (x:z1r):(z1r.enc x).length=3∧∀ u∈z1r.enc x,u.oneCell'=true:=by
 constructor
 ·rfl
 ·intro u hu; simp only [z1r.enc,y1,y0,or_false] at hu; rcases hu with rfl | rfl | rfl <;> rfl
structure zl where
 Kind:Int
 At:Int
 Name:(List UInt8)
 Texts:(List (List UInt8))
 Amount:z1r
 Default:(List UInt8)
 HasDefault:Bool
 Conds:(List zl)
structure zQ where
 Name:(List UInt8)
 At:Int
 Clauses:(List zl)
structure zL where
 Name:(List UInt8)
 At:Int
 Rules:(List zQ)
structure zi where
 Op:Int
 At:Int
 S:(List UInt8)
 Args:(List zi)
structure zm where
 Kind:Int
 At:Int
 Name:(List UInt8)
 X:zi
 Body:(List zm)
 Else:(List zm)
structure zI where
 Name:(List UInt8)
 At:Int
 Effects:(List Int)
 Code:(List zm)
structure zG where
 Policies:(List zL)
 Programs:(List zI)
structure z11 where
 At:Int
 E:Int
 deriving DecidableEq,Repr
def z11.enc (x:z11):List Value:=[.int .i64 x.At,.int .i64 x.E]
theorem z11.enc_ok (x:z11):(z11.enc x).length=2∧∀ u∈z11.enc x,u.oneCell'=true:=by
 constructor
 ·rfl
 ·intro u hu; simp only [z11.enc,y1,y0,or_false] at hu; rcases hu with rfl | rfl <;> rfl
structure z6 where
 Kind:Int
 At:Int
 S:(List UInt8)
 deriving DecidableEq,Repr
def z6.enc (x:z6):List Value:=[.int .i64 x.Kind,.int .i64 x.At,.string (bs x.S)]
theorem z6.enc_ok (x:z6):(z6.enc x).length=3∧∀ u∈z6.enc x,u.oneCell'=true:=by
 constructor
 ·rfl
 ·intro u hu; simp only [z6.enc,y1,y0,or_false] at hu; rcases hu with rfl | rfl | rfl <;> rfl
structure zV where
 s_:(List UInt8)
 at_:Int
 deriving DecidableEq,Repr
def zV.enc (x:zV):List Value:=[.string (bs x.s_),.int .i64 x.at_]
theorem zV.enc_ok (x:zV):(zV.enc x).length=2∧∀ u∈zV.enc x,u.oneCell'=true:=by
 constructor
 ·rfl
 ·intro u hu; simp only [zV.enc,y1,y0,or_false] at hu; rcases hu with rfl | rfl <;> rfl
structure z7 where
 l_:(List z6)
 i_:Int
 at_:Int
 deriving DecidableEq,Repr
structure zo where
 l_:(List z6)
 deriving DecidableEq,Repr
structure z7H where
 L:(List z6)
 P:z11
 deriving DecidableEq,Repr
structure z1O where
 T:z6
 End:Int
 E:Int
 deriving DecidableEq,Repr
def z1O.enc (x:z1O):List Value:=[.int .i64 x.T.Kind,.int .i64 x.T.At,.string (bs x.T.S),.int .i64 x.End,.int .i64 x.E]
theorem z1O.enc_ok (x:z1O):(z1O.enc x).length=5∧∀ u∈z1O.enc x,u.oneCell'=true:=by
 constructor
 ·rfl
 ·intro u hu; simp only [z1O.enc,y1,y0,or_false] at hu; rcases hu with rfl | rfl | rfl | rfl | rfl <;> rfl
structure z1R where
 X:zG
 I:Int
 Bad:Bool
structure z12 where
 L:(List zl)
 I:Int
 Bad:Bool
structure z1g where
 L:(List zm)
 I:Int
 Bad:Bool
structure zR where
 X:zi
 I:Int
 Bad:Bool
structure z2n where
 S:(List UInt8)
 E:Int
 deriving DecidableEq,Repr
def z2n.enc (x:z2n):List Value:=[.string (bs x.S),.int .i64 x.E]
theorem z2n.enc_ok (x:z2n):(z2n.enc x).length=2∧∀ u∈z2n.enc x,u.oneCell'=true:=by
 constructor
 ·rfl
 ·intro u hu; simp only [z2n.enc,y1,y0,or_false] at hu; rcases hu with rfl | rfl <;> rfl
structure z3l where
 S:(List UInt8)
 E:Int
 deriving DecidableEq,Repr
def z3l.enc (x:z3l):List Value:=[.string (bs x.S),.int .i64 x.E]
theorem z3l.enc_ok (x:z3l):(z3l.enc x).length=2∧∀ u∈z3l.enc x,u.oneCell'=true:=by
 constructor
 ·rfl
 ·intro u hu; simp only [z3l.enc,y1,y0,or_false] at hu; rcases hu with rfl | rfl <;> rfl
def z1W:TC zl where
 G:=Value×Value
 es:=10
 F:=fun x g=>[.int .i64 x.Kind,.int .i64 x.At,.string (bs x.Name),g.1,.string (bs x.Amount.Number),.string (bs x.Amount.Unit),.int .i64 x.Amount.At,.string (bs x.Default),.bool x.HasDefault,g.2]
 fixed:=fun x g=>[ro g.1 1 (x.Texts.map eStr)]
 kids:=fun x g=>[(g.2,x.Conds)]
 free:=by
  intro x g h hh
  simp only [y1,y0,or_false] at hh
  rcases hh with rfl <;> first | exact zb8 | exact z6r
 ok:=by
  intro x g w o k hf hk
  refine ⟨rfl,?_⟩
  intro u hu
  simp only [y1,y0,or_false] at hu
  rcases hu with rfl | rfl | rfl | rfl | rfl | rfl | rfl | rfl | rfl | rfl <;> first | rfl | exact zlt (hf _ (.head _)) | exact zhy (hf _ (.head _)) | exact zg4 (hk _ (.head _))
abbrev zp:NC zl:=z1W.nc
def zY:NC zQ where
 G:=Value
 es:=3
 F:=fun x g=>[.string (bs x.Name),.int .i64 x.At,g]
 S:=fun x g=>[nro g zp x.Clauses]
 free:=by
  intro x g h hh
  simp only [y1,y0,or_false] at hh
  rcases hh with rfl <;> first | exact zb8 | exact z6r
 ok:=by
  intro x g w o k hh
  refine ⟨rfl,?_⟩
  intro u hu
  simp only [y1,y0,or_false] at hu
  rcases hu with rfl | rfl | rfl <;> first | rfl | exact zlt (hh _ (.head _)) | exact zhy (hh _ (.head _))
def zz:NC zL where
 G:=Value
 es:=3
 F:=fun x g=>[.string (bs x.Name),.int .i64 x.At,g]
 S:=fun x g=>[nro g zY x.Rules]
 free:=by
  intro x g h hh
  simp only [y1,y0,or_false] at hh
  rcases hh with rfl <;> first | exact zb8 | exact z6r
 ok:=by
  intro x g w o k hh
  refine ⟨rfl,?_⟩
  intro u hu
  simp only [y1,y0,or_false] at hu
  rcases hu with rfl | rfl | rfl <;> first | rfl | exact zlt (hh _ (.head _)) | exact zhy (hh _ (.head _))
def z1b:TC zi where
 G:=Value
 es:=4
 F:=fun x g=>[.int .i64 x.Op,.int .i64 x.At,.string (bs x.S),g]
 fixed:=fun x g=>[]
 kids:=fun x g=>[(g,x.Args)]
 free:=by
  intro x g h hh
  cases hh
 ok:=by
  intro x g w o k hf hk
  refine ⟨rfl,?_⟩
  intro u hu
  simp only [y1,y0,or_false] at hu
  rcases hu with rfl | rfl | rfl | rfl <;> first | rfl | exact zg4 (hk _ (.head _))
abbrev zj:NC zi:=z1b.nc
def z1S:TC zm where
 G:=Value×Value×Value
 es:=9
 F:=fun x g=>[.int .i64 x.Kind,.int .i64 x.At,.string (bs x.Name),.int .i64 x.X.Op,.int .i64 x.X.At,.string (bs x.X.S),g.1,g.2.1,g.2.2]
 fixed:=fun x g=>[nro g.1 zj x.X.Args]
 kids:=fun x g=>[(g.2.1,x.Body),(g.2.2,x.Else)]
 free:=by
  intro x g h hh
  simp only [y1,y0,or_false] at hh
  rcases hh with rfl <;> first | exact zb8 | exact z6r
 ok:=by
  intro x g w o k hf hk
  refine ⟨rfl,?_⟩
  intro u hu
  simp only [y1,y0,or_false] at hu
  rcases hu with rfl | rfl | rfl | rfl | rfl | rfl | rfl | rfl | rfl <;> first | rfl | exact zlt (hf _ (.head _)) | exact zhy (hf _ (.head _)) | exact zg4 (hk _ (.head _)) | exact zg4 (hk _ (.tail _ (.head _)))
abbrev zE:NC zm:=z1S.nc
def zw:NC zI where
 G:=Value×Value
 es:=4
 F:=fun x g=>[.string (bs x.Name),.int .i64 x.At,g.1,g.2]
 S:=fun x g=>[ro g.1 1 (x.Effects.map (eInt .i64)),nro g.2 zE x.Code]
 free:=by
  intro x g h hh
  simp only [y1,y0,or_false] at hh
  rcases hh with rfl | rfl <;> first | exact zb8 | exact z6r
 ok:=by
  intro x g w o k hh
  refine ⟨rfl,?_⟩
  intro u hu
  simp only [y1,y0,or_false] at hu
  rcases hu with rfl | rfl | rfl | rfl <;> first | rfl | exact zlt (hh _ (.head _)) | exact zhy (hh _ (.head _)) | exact zlt (hh _ (.tail _ (.head _))) | exact zhy (hh _ (.tail _ (.head _)))
abbrev K1 (u:Int→Option (Bool)) (F:FuncId):Prop:=∀ {a0:Int} {r:Bool},u a0=some r→Meets Tryz.prog F [.int .u8 a0] [] (fun v G=>v = .bool r∧G=[])
abbrev K2 (u:zV→Option (Pn (z6×zV))) (F:FuncId):Prop:=∀ {a0:zV} {g0:Nat} {r:Pn (z6×zV)},u a0=some r→z4t Tryz.prog F [boxP g0 0] [box g0 [.string (bs a0.s_),.int .i64 a0.at_],globA] (fun v G=>∃ q,r = .ret q∧(v = .agg #[.int .i64 q.1.Kind,.int .i64 q.1.At,.string (bs q.1.S)]∧G=[box g0 [.string (bs q.2.s_),.int .i64 q.2.at_]])) (fun v=>∃ e,r = .pan e∧v = .iface 27 (.int .i64 e))
abbrev K3 (u:zV→Option (Pn (z6×zV))) (F:FuncId):Prop:=∀ {a0:zV} {g0:Nat} {r:Pn (z6×zV)},u a0=some r→z4t Tryz.prog F [boxP g0 0] [box g0 [.string (bs a0.s_),.int .i64 a0.at_]] (fun v G=>∃ q,r = .ret q∧(v = .agg #[.int .i64 q.1.Kind,.int .i64 q.1.At,.string (bs q.1.S)]∧G=[box g0 [.string (bs q.2.s_),.int .i64 q.2.at_]])) (fun v=>∃ e,r = .pan e∧v = .iface 27 (.int .i64 e))
abbrev K4 (u:(List z6)→Option (Int)) (F:FuncId):Prop:=∀ {a0:(List z6)} {g0:Value} {r:Int},u a0=some r→Meets Tryz.prog F [g0] [ro g0 3 (a0.map z6.enc)] (fun v G=>v = .int .i64 r∧G=[])
abbrev K5 (u:Option ((List (List UInt8)))) (F:FuncId):Prop:=∀ {r:(List (List UInt8))},u=some r→Meets Tryz.prog F [] [] (fun v G=>∃ v0,v=v0∧G=[row v0 1 (r.map eStr)])
abbrev K6 (u:z7→Option (Pn ((List UInt8)×z7))) (F:FuncId):Prop:=∀ {a0:z7} {g0:Nat} {g1:Value} {r:Pn ((List UInt8)×z7)},u a0=some r→z4t Tryz.prog F [boxP g0 0] [ro g1 3 (a0.l_.map z6.enc),box g0 [g1,.int .i64 a0.i_,.int .i64 a0.at_]] (fun v G=>∃ q,r = .ret q∧(∃ v0,v = .string (bs q.1)∧G=[ro v0 3 (q.2.l_.map z6.enc),box g0 [v0,.int .i64 q.2.i_,.int .i64 q.2.at_]])) (fun v=>∃ e,r = .pan e∧v = .iface 29 (.agg #[.int .i64 e,.int .i64 180]))
abbrev K7 (u:z7→zl→Option (Pn (z7×zl))) (F:FuncId):Prop:=∀ {a0:z7} {a1:zl} {g0:Nat} {g1:Value} {g2:Nat} {g3:Value} {g4:Value} {r:Pn (z7×zl)},u a0 a1=some r→z4t Tryz.prog F [boxP g0 0,boxP g2 0] [ro g1 3 (a0.l_.map z6.enc),box g0 [g1,.int .i64 a0.i_,.int .i64 a0.at_],row g3 1 (a1.Texts.map eStr),nrow g4 zp a1.Conds,box g2 [.int .i64 a1.Kind,.int .i64 a1.At,.string (bs a1.Name),g3,.string (bs a1.Amount.Number),.string (bs a1.Amount.Unit),.int .i64 a1.Amount.At,.string (bs a1.Default),.bool a1.HasDefault,g4]] (fun v G=>∃ q,r = .ret q∧(∃ v0 v1 v2,v = .tuple #[]∧G=[ro v0 3 (q.1.l_.map z6.enc),box g0 [v0,.int .i64 q.1.i_,.int .i64 q.1.at_],row v1 1 (q.2.Texts.map eStr),nrow v2 zp q.2.Conds,box g2 [.int .i64 q.2.Kind,.int .i64 q.2.At,.string (bs q.2.Name),v1,.string (bs q.2.Amount.Number),.string (bs q.2.Amount.Unit),.int .i64 q.2.Amount.At,.string (bs q.2.Default),.bool q.2.HasDefault,v2]])) (fun v=>∃ e,r = .pan e∧v = .iface 29 (.agg #[.int .i64 e,.int .i64 180]))
abbrev K8 (u:z7→Bool→Option (Pn ((List zl)×z7))) (F:FuncId):Prop:=∀ {a0:z7} {a1:Bool} {g0:Nat} {g1:Value} {r:Pn ((List zl)×z7)},u a0 a1=some r→z4t Tryz.prog F [boxP g0 0,.bool a1] [ro g1 3 (a0.l_.map z6.enc),box g0 [g1,.int .i64 a0.i_,.int .i64 a0.at_]] (fun v G=>∃ q,r = .ret q∧(∃ v0 v1,v=v0∧G=[nrow v0 zp q.1,ro v1 3 (q.2.l_.map z6.enc),box g0 [v1,.int .i64 q.2.i_,.int .i64 q.2.at_]])) (fun v=>∃ e,r = .pan e∧v = .iface 29 (.agg #[.int .i64 e,.int .i64 180]))
abbrev K9 (u:z7→Option (Pn (zi×z7))) (F:FuncId):Prop:=∀ {a0:z7} {g0:Nat} {g1:Value} {r:Pn (zi×z7)},u a0=some r→z4t Tryz.prog F [boxP g0 0] [ro g1 3 (a0.l_.map z6.enc),box g0 [g1,.int .i64 a0.i_,.int .i64 a0.at_]] (fun v G=>∃ q,r = .ret q∧(∃ v0 v1,v = .agg #[.int .i64 q.1.Op,.int .i64 q.1.At,.string (bs q.1.S),v0]∧G=[nrow v0 zj q.1.Args,ro v1 3 (q.2.l_.map z6.enc),box g0 [v1,.int .i64 q.2.i_,.int .i64 q.2.at_]])) (fun v=>∃ e,r = .pan e∧v = .iface 29 (.agg #[.int .i64 e,.int .i64 180]))
abbrev K10 (u:z7→Option (Pn ((List zm)×z7))) (F:FuncId):Prop:=∀ {a0:z7} {g0:Nat} {g1:Value} {r:Pn ((List zm)×z7)},u a0=some r→z4t Tryz.prog F [boxP g0 0] [ro g1 3 (a0.l_.map z6.enc),box g0 [g1,.int .i64 a0.i_,.int .i64 a0.at_]] (fun v G=>∃ q,r = .ret q∧(∃ v0 v1,v=v0∧G=[nrow v0 zE q.1,ro v1 3 (q.2.l_.map z6.enc),box g0 [v1,.int .i64 q.2.i_,.int .i64 q.2.at_]])) (fun v=>∃ e,r = .pan e∧v = .iface 29 (.agg #[.int .i64 e,.int .i64 180]))
abbrev K11 (u:z7→Option (Pn (zm×z7))) (F:FuncId):Prop:=∀ {a0:z7} {g0:Nat} {g1:Value} {r:Pn (zm×z7)},u a0=some r→z4t Tryz.prog F [boxP g0 0] [ro g1 3 (a0.l_.map z6.enc),box g0 [g1,.int .i64 a0.i_,.int .i64 a0.at_]] (fun v G=>∃ q,r = .ret q∧(∃ v0 v1 v2 v3,v = .agg #[.int .i64 q.1.Kind,.int .i64 q.1.At,.string (bs q.1.Name),.int .i64 q.1.X.Op,.int .i64 q.1.X.At,.string (bs q.1.X.S),v0,v1,v2]∧G=[nrow v0 zj q.1.X.Args,nrow v1 zE q.1.Body,nrow v2 zE q.1.Else,ro v3 3 (q.2.l_.map z6.enc),box g0 [v3,.int .i64 q.2.i_,.int .i64 q.2.at_]])) (fun v=>∃ e,r = .pan e∧v = .iface 29 (.agg #[.int .i64 e,.int .i64 180]))
abbrev K12 (u:zo→zi→Option (Pn (zo))) (F:FuncId):Prop:=∀ {a0:zo} {a1:zi} {g0:Nat} {g1:Value} {g2:Value} {r:Pn (zo)},u a0 a1=some r→z4t Tryz.prog F [boxP g0 0,.agg #[.int .i64 a1.Op,.int .i64 a1.At,.string (bs a1.S),g2]] [row g1 3 (a0.l_.map z6.enc),box g0 [g1],nro g2 zj a1.Args] (fun v G=>∃ q,r = .ret q∧(∃ v0,v = .tuple #[]∧G=[row v0 3 (q.l_.map z6.enc),box g0 [v0]])) (fun v=>∃ e,r = .pan e∧v = .iface 27 (.int .i64 e))
abbrev K13 (u:(List zl)→(List zl)→Option (Bool)) (F:FuncId):Prop:=∀ {a0:(List zl)} {a1:(List zl)} {g0:Value} {g1:Value} {r:Bool},u a0 a1=some r→Meets Tryz.prog F [g0,g1] [nro g0 zp a0,nro g1 zp a1] (fun v G=>v = .bool r∧G=[])
abbrev K14 (u:zi→zi→Option (Bool)) (F:FuncId):Prop:=∀ {a0:zi} {a1:zi} {g0:Value} {g1:Value} {r:Bool},u a0 a1=some r→Meets Tryz.prog F [.agg #[.int .i64 a0.Op,.int .i64 a0.At,.string (bs a0.S),g0],.agg #[.int .i64 a1.Op,.int .i64 a1.At,.string (bs a1.S),g1]] [nro g0 zj a0.Args,nro g1 zj a1.Args] (fun v G=>v = .bool r∧G=[])
abbrev K15 (u:(List zm)→(List zm)→Option (Bool)) (F:FuncId):Prop:=∀ {a0:(List zm)} {a1:(List zm)} {g0:Value} {g1:Value} {r:Bool},u a0 a1=some r→Meets Tryz.prog F [g0,g1] [nro g0 zE a0,nro g1 zE a1] (fun v G=>v = .bool r∧G=[])
abbrev K19 (u:zi→Option (Bool)) (F:FuncId):Prop:=∀ {a0:zi} {g0:Value} {r:Bool},u a0=some r→Meets Tryz.prog F [.agg #[.int .i64 a0.Op,.int .i64 a0.At,.string (bs a0.S),g0]] [nro g0 zj a0.Args] (fun v G=>v = .bool r∧G=[])
abbrev K20 (u:zi→Option ((List z6))) (F:FuncId):Prop:=∀ {a0:zi} {g0:Value} {r:(List z6)},u a0=some r→Meets Tryz.prog F [.agg #[.int .i64 a0.Op,.int .i64 a0.At,.string (bs a0.S),g0]] [nro g0 zj a0.Args] (fun v G=>∃ v0,v=v0∧G=[row v0 3 (r.map z6.enc)])
abbrev K22 (u:(List zl)→Option ((List zl))) (F:FuncId):Prop:=∀ {a0:(List zl)} {g0:Value} {r:(List zl)},u a0=some r→Meets Tryz.prog F [g0] [nro g0 zp a0] (fun v G=>∃ v0,v=v0∧G=[nrow v0 zp r])
abbrev K23 (u:zi→Option (zi)) (F:FuncId):Prop:=∀ {a0:zi} {g0:Value} {r:zi},u a0=some r→Meets Tryz.prog F [.agg #[.int .i64 a0.Op,.int .i64 a0.At,.string (bs a0.S),g0]] [nro g0 zj a0.Args] (fun v G=>∃ v0,v = .agg #[.int .i64 r.Op,.int .i64 r.At,.string (bs r.S),v0]∧G=[nrow v0 zj r.Args])
abbrev K24 (u:(List zm)→Option ((List zm))) (F:FuncId):Prop:=∀ {a0:(List zm)} {g0:Value} {r:(List zm)},u a0=some r→Meets Tryz.prog F [g0] [nro g0 zE a0] (fun v G=>∃ v0,v=v0∧G=[nrow v0 zE r])
abbrev K25 (u:(List zl)→Int→Option (Int)) (F:FuncId):Prop:=∀ {a0:(List zl)} {a1:Int} {g0:Value} {r:Int},u a0 a1=some r→Meets Tryz.prog F [g0,.int .i64 a1] [nro g0 zp a0] (fun v G=>v = .int .i64 r∧G=[])
abbrev K26 (u:zi→Int→Option (Int)) (F:FuncId):Prop:=∀ {a0:zi} {a1:Int} {g0:Value} {r:Int},u a0 a1=some r→Meets Tryz.prog F [.agg #[.int .i64 a0.Op,.int .i64 a0.At,.string (bs a0.S),g0],.int .i64 a1] [nro g0 zj a0.Args] (fun v G=>v = .int .i64 r∧G=[])
abbrev K27 (u:(List zm)→Int→Option (Int)) (F:FuncId):Prop:=∀ {a0:(List zm)} {a1:Int} {g0:Value} {r:Int},u a0 a1=some r→Meets Tryz.prog F [g0,.int .i64 a1] [nro g0 zE a0] (fun v G=>v = .int .i64 r∧G=[])
abbrev K28 (u:zo→(List zl)→Bool→Option (Pn (zo))) (F:FuncId):Prop:=∀ {a0:zo} {a1:(List zl)} {a2:Bool} {g0:Nat} {g1:Value} {g2:Value} {r:Pn (zo)},u a0 a1 a2=some r→z4t Tryz.prog F [boxP g0 0,g2,.bool a2] [row g1 3 (a0.l_.map z6.enc),box g0 [g1],nro g2 zp a1] (fun v G=>∃ q,r = .ret q∧(∃ v0,v = .tuple #[]∧G=[row v0 3 (q.l_.map z6.enc),box g0 [v0]])) (fun v=>∃ e,r = .pan e∧v = .iface 27 (.int .i64 e))
abbrev K29 (u:zo→(List zm)→Option (Pn (zo))) (F:FuncId):Prop:=∀ {a0:zo} {a1:(List zm)} {g0:Nat} {g1:Value} {g2:Value} {r:Pn (zo)},u a0 a1=some r→z4t Tryz.prog F [boxP g0 0,g2] [row g1 3 (a0.l_.map z6.enc),box g0 [g1],nro g2 zE a1] (fun v G=>∃ q,r = .ret q∧(∃ v0,v = .tuple #[]∧G=[row v0 3 (q.l_.map z6.enc),box g0 [v0]])) (fun v=>∃ e,r = .pan e∧v = .iface 27 (.int .i64 e))
abbrev K30 (u:zo→zm→Option (Pn (zo))) (F:FuncId):Prop:=∀ {a0:zo} {a1:zm} {g0:Nat} {g1:Value} {g2:Value} {g3:Value} {g4:Value} {r:Pn (zo)},u a0 a1=some r→z4t Tryz.prog F [boxP g0 0,.agg #[.int .i64 a1.Kind,.int .i64 a1.At,.string (bs a1.Name),.int .i64 a1.X.Op,.int .i64 a1.X.At,.string (bs a1.X.S),g2,g3,g4]] [row g1 3 (a0.l_.map z6.enc),box g0 [g1],nro g2 zj a1.X.Args,nro g3 zE a1.Body,nro g4 zE a1.Else] (fun v G=>∃ q,r = .ret q∧(∃ v0,v = .tuple #[]∧G=[row v0 3 (q.l_.map z6.enc),box g0 [v0]])) (fun v=>∃ e,r = .pan e∧v = .iface 27 (.int .i64 e))
abbrev K31 (u:(List zl)→Bool→Option (Bool)) (F:FuncId):Prop:=∀ {a0:(List zl)} {a1:Bool} {g0:Value} {r:Bool},u a0 a1=some r→Meets Tryz.prog F [g0,.bool a1] [nro g0 zp a0] (fun v G=>v = .bool r∧G=[])
abbrev K32 (u:(List zm)→Option (Bool)) (F:FuncId):Prop:=∀ {a0:(List zm)} {g0:Value} {r:Bool},u a0=some r→Meets Tryz.prog F [g0] [nro g0 zE a0] (fun v G=>v = .bool r∧G=[])
abbrev K33 (u:(List zl)→Option ((List z6))) (F:FuncId):Prop:=∀ {a0:(List zl)} {g0:Value} {r:(List z6)},u a0=some r→Meets Tryz.prog F [g0] [nro g0 zp a0] (fun v G=>∃ v0,v=v0∧G=[row v0 3 (r.map z6.enc)])
abbrev K34 (u:(List zm)→Option ((List z6))) (F:FuncId):Prop:=∀ {a0:(List zm)} {g0:Value} {r:(List z6)},u a0=some r→Meets Tryz.prog F [g0] [nro g0 zE a0] (fun v G=>∃ v0,v=v0∧G=[row v0 3 (r.map z6.enc)])
abbrev K35 (u:zm→Option ((List z6))) (F:FuncId):Prop:=∀ {a0:zm} {g0:Value} {g1:Value} {g2:Value} {r:(List z6)},u a0=some r→Meets Tryz.prog F [.agg #[.int .i64 a0.Kind,.int .i64 a0.At,.string (bs a0.Name),.int .i64 a0.X.Op,.int .i64 a0.X.At,.string (bs a0.X.S),g0,g1,g2]] [nro g0 zj a0.X.Args,nro g1 zE a0.Body,nro g2 zE a0.Else] (fun v G=>∃ v0,v=v0∧G=[row v0 3 (r.map z6.enc)])
abbrev K36 (u:(List zi)→Option ((List zi))) (F:FuncId):Prop:=∀ {a0:(List zi)} {g0:Value} {r:(List zi)},u a0=some r→Meets Tryz.prog F [g0] [nro g0 zj a0] (fun v G=>∃ v0,v=v0∧G=[nrow v0 zj r])
abbrev K37 (u:Option ((List ((List UInt8)×Int)))) (F:FuncId):Prop:=∀ {r:(List ((List UInt8)×Int))},u=some r→Meets Tryz.prog F [] [] (fun v G=>∃ v0,v = .map (some v0)∧G=[mapis v0 (mcells (fun l:List UInt8=>Value.string (bs l)) (fun n:Int=>Value.int .i64 n) r)])
abbrev K38 (u:z7→zm→Option (Pn (z7×zm))) (F:FuncId):Prop:=∀ {a0:z7} {a1:zm} {g0:Nat} {g1:Value} {g2:Nat} {g3:Value} {g4:Value} {g5:Value} {r:Pn (z7×zm)},u a0 a1=some r→z4t Tryz.prog F [boxP g0 0,boxP g2 0] [ro g1 3 (a0.l_.map z6.enc),box g0 [g1,.int .i64 a0.i_,.int .i64 a0.at_],nrow g3 zj a1.X.Args,nrow g4 zE a1.Body,nrow g5 zE a1.Else,box g2 [.int .i64 a1.Kind,.int .i64 a1.At,.string (bs a1.Name),.int .i64 a1.X.Op,.int .i64 a1.X.At,.string (bs a1.X.S),g3,g4,g5]] (fun v G=>∃ q,r = .ret q∧(∃ v0 v1 v2 v3,v = .tuple #[]∧G=[ro v0 3 (q.1.l_.map z6.enc),box g0 [v0,.int .i64 q.1.i_,.int .i64 q.1.at_],nrow v1 zj q.2.X.Args,nrow v2 zE q.2.Body,nrow v3 zE q.2.Else,box g2 [.int .i64 q.2.Kind,.int .i64 q.2.At,.string (bs q.2.Name),.int .i64 q.2.X.Op,.int .i64 q.2.X.At,.string (bs q.2.X.S),v1,v2,v3]])) (fun v=>∃ e,r = .pan e∧v = .iface 29 (.agg #[.int .i64 e,.int .i64 180]))
abbrev K39 (u:zo→(List (List UInt8))→Option (zo)) (F:FuncId):Prop:=∀ {a0:zo} {a1:(List (List UInt8))} {g0:Nat} {g1:Value} {g2:Value} {r:zo},u a0 a1=some r→Meets Tryz.prog F [boxP g0 0,g2] [row g1 3 (a0.l_.map z6.enc),box g0 [g1],ro g2 1 (a1.map eStr)] (fun v G=>∃ v0,v = .tuple #[]∧G=[row v0 3 (r.l_.map z6.enc),box g0 [v0]])
abbrev K40 (u:z6→Option ((List UInt8))) (F:FuncId):Prop:=∀ {a0:z6} {r:(List UInt8)},u a0=some r→Meets Tryz.prog F [.agg #[.int .i64 a0.Kind,.int .i64 a0.At,.string (bs a0.S)]] [] (fun v G=>v = .string (bs r)∧G=[])
abbrev K41 (u:(List UInt8)→Int→Option (z1O)) (F:FuncId):Prop:=∀ {a0:(List UInt8)} {a1:Int} {r:z1O},u a0 a1=some r→Meets Tryz.prog F [.string (bs a0),.int .i64 a1] [] (fun v G=>v = .agg #[.int .i64 r.T.Kind,.int .i64 r.T.At,.string (bs r.T.S),.int .i64 r.End,.int .i64 r.E]∧G=[])
abbrev K42 (u:(List z6)→Int→Option (Int)) (F:FuncId):Prop:=∀ {a0:(List z6)} {a1:Int} {g0:Value} {r:Int},u a0 a1=some r→Meets Tryz.prog F [g0,.int .i64 a1] [ro g0 3 (a0.map z6.enc)] (fun v G=>v = .int .i64 r∧G=[])
abbrev K43 (u:(List z6)→Int→(List UInt8)→Option (Bool)) (F:FuncId):Prop:=∀ {a0:(List z6)} {a1:Int} {a2:(List UInt8)} {g0:Value} {r:Bool},u a0 a1 a2=some r→Meets Tryz.prog F [g0,.int .i64 a1,.string (bs a2)] [ro g0 3 (a0.map z6.enc)] (fun v G=>v = .bool r∧G=[])
abbrev K46 (u:(List UInt8)→Option (z6)) (F:FuncId):Prop:=∀ {a0:(List UInt8)} {r:z6},u a0=some r→Meets Tryz.prog F [.string (bs a0)] [] (fun v G=>v = .agg #[.int .i64 r.Kind,.int .i64 r.At,.string (bs r.S)]∧G=[])
abbrev K47 (u:zG→Option (zG)) (F:FuncId):Prop:=∀ {a0:zG} {g0:Value} {g1:Value} {r:zG},u a0=some r→Meets Tryz.prog F [.agg #[g0,g1]] [nro g0 zz a0.Policies,nro g1 zw a0.Programs] (fun v G=>∃ v0 v1,v = .agg #[v0,v1]∧G=[nrow v0 zz r.Policies,nrow v1 zw r.Programs])
abbrev K48 (u:Int→Option (Bool)) (F:FuncId):Prop:=∀ {a0:Int} {r:Bool},u a0=some r→Meets Tryz.prog F [.int .i64 a0] [] (fun v G=>v = .bool r∧G=[])
def zff  : Option (Unit):=
 some ()
theorem zi9 {r:Unit} (h:zff=some r) :
  Meets Tryz.prog 42 [] [globA] (fun v G=>∃ v0,v=v0∧G=[row v0 2 [[.func (.func 90) #[] #[],.func (.func 91) #[] #[]],[.func (.func 92) #[] #[],.func (.func 93) #[] #[]],[.func (.func 94) #[] #[],.func (.func 95) #[] #[]],[.func (.func 96) #[] #[],.func (.func 97) #[] #[]]]]):=by
 refine zN func42 rfl ntmps42 rfl (fun w0 o0=>?_)
 refine yn 4 ?_
 refine zt (t_lit [.agg #[.func (.func 90) #[] #[],.func (.func 91) #[] #[]],.agg #[.func (.func 92) #[] #[],.func (.func 93) #[] #[]],.agg #[.func (.func 94) #[] #[],.func (.func 95) #[] #[]],.agg #[.func (.func 96) #[] #[],.func (.func 97) #[] #[]]] runUnderlying110 sizeOf114 zeroValue114 rfl (by decide) (by decide) rfl (by simp [Value.cells,Value.oneCell',boxP])) ?_
 rintro v1 _ ⟨rfl,_⟩
 refine zB (retell 1 (g:=row v1 2 [[.func (.func 90) #[] #[],.func (.func 91) #[] #[]],[.func (.func 92) #[] #[],.func (.func 93) #[] #[]],[.func (.func 94) #[] #[],.func (.func 95) #[] #[]],[.func (.func 96) #[] #[],.func (.func 97) #[] #[]]]) rfl rfl) ?_
 refine yn 3 ?_
 exact fs [0] [1] results42 h
def z3K (b_0:Int):Option (Bool):=
 some (((decide (b_0=32) || decide (b_0=9)) || decide (b_0=10)) || decide (b_0=13))
theorem z87:K1 z3K 99:=by
 intro b_0 r h
 refine zN func99 rfl ntmps99 rfl (fun w0 o0=>?_)
 refine yn 4 ?_
 refine oq 3 5 8 [0] [] (decide (b_0=32) || decide (b_0=9)) ?_
 refine ys ?_
 refine oq 3 9 12 [0] [] ((decide (b_0=32) || decide (b_0=9)) || decide (b_0=10)) ?_
 refine ys ?_
 refine oq 3 13 16 [] [] (((decide (b_0=32) || decide (b_0=9)) || decide (b_0=10)) || decide (b_0=13)) ?_
 refine yn 3 ?_
 exact fs [2] [] results99 h
def z4m (r_0:zV):(Int)→Option (Lp (Int) (Lp (Int) ((List UInt8)×zV))):=
 fun x_6=>
  bindJ (S:=Bool)
   (cond (decide (x_6 < (r_0.s_.length : Int)))
    (idx r_0.s_ x_6 fun c17=>
    obind (z3K (c17.toNat:Int)) fun r18=>
    some (.go r18))
    (some (.go false)))
  (fun b11 =>
   cond b11
    (some (.go (IntKind.i64.wrap (x_6+1))))
    (some (.stop (.go x_6))))
def z3W (n:Nat) (r_0:zV):Option ((List UInt8)×zV):=
 bindJ (S:=Int)
  (iter (z4m r_0) n r_0.at_)
 (fun x_1 =>
  need (0≤r_0.at_∧r_0.at_≤x_1∧x_1≤(r_0.s_.length:Int)) (
  some (((r_0.s_.take x_1.toNat).drop ((r_0.at_).toNat)),(zV.mk r_0.s_ x_1))))
theorem z8P {n:Nat} {r_0:zV} {j0:Nat} {r:(List UInt8)×zV} (h:z3W n r_0=some r) :
  Meets Tryz.prog 98 [boxP j0 0,.func (.func 99) #[] #[]] [box j0 [.string (bs r_0.s_),.int .i64 r_0.at_]] (fun v G=>v = .string (bs r.1)∧G=[box j0 [.string (bs r.2.s_),.int .i64 r.2.at_]]):=by
 refine zN func98 rfl ntmps98 rfl (fun w0 o0=>?_)
 refine yn 4 ?_
 refine zd (jr h [0,5] [0] (fun s (g:Unit)=>[]) (fun s g=>[box j0 [.string (bs r_0.s_),.int .i64 s]]) (fun _ h _ _ hL4=>?_) ?_)
 ·refine zF (lo h [0,1,5] [0] (fun s (g:Unit)=>[]) (fun s g=>[box j0 [.string (bs r_0.s_),.int .i64 s]]) () [0] ?_)
  rintro x_6 _ _ h _ j5 j3
  refine rs ?_
  refine yn 2 ?_
  refine rf [1] fun hS=>?_
  refine aq [0,1,2,3,4,5,6,7,8,9,10] ?_
  refine ab h [23] 0 [0,1,5] [1] (fun s=>[(32,.bool s)]) (fun s=>[]) (fun _ h _ j4=>?_) ?_
  ·refine z1L 20 (decide (x_6<(r_0.s_.length:Int))) rfl (fun j2=>?_) (fun j2=>?_)
   ·replace h:=z2F h j2
    refine aq [11,12,13,14,15,16,17,18,19] ?_
    obtain ⟨c17,j6,j7,j8,h⟩:=zP h
    refine aq [20] ?_
    refine al0 21 [] call99 (fun h=>z87 h) h (fun r18 h=>?_)
    refine aq [22] ?_
    exact aw (j4 _ (zU h).symm) [0]
   ·replace h:=z2E h j2
    refine aq [11,12,13,14,15,16,17,18,19,20,21,22] ?_
    exact aw (j4 _ (zU h).symm) [0]
  rintro b11 h
  refine az ?_
  refine z1K (by kernel_rfl) ?_
  refine yc 1 h (fun _ h=>?_) fun _ h=>?_
  ·refine yn 7 ?_
   exact gj j5 () [0] h
  ·refine z1h _ rfl ?_
   exact gk hL4 j3 () [0] h
 rintro x_1 _ h
 refine rs ?_
 refine zH (z4U (by kernel_rfl) (by kernel_rfl) ?_)
 refine yu ?_
 obtain ⟨hb21,h⟩:=zX h
 refine zu (z5R (l:=r_0.at_) (r:=x_1) runUnderlying9 rfl (bi1 (kd:=.i64) rfl) (bi1 (kd:=.i64) rfl) hb21.1 hb21.2.1 hb21.2.2) ?_
 refine yu ?_
 refine z2m ?_
 refine yn 2 ?_
 exact fs [4] [0] results98 h
def z3z (b_0:Int):Option (Bool):=
 some (decide (b_0≠10))
theorem z7P:K1 z3z 100:=by
 intro b_0 r h
 refine zN func100 rfl ntmps100 rfl (fun w0 o0=>?_)
 refine yn 6 ?_
 exact fs [2] [] results100 h
def z43 (r_0:zV):(Int)→Option (Lp (Int) (Lp (Int) ((List UInt8)×zV))):=
 fun x_6=>
  bindJ (S:=Bool)
   (cond (decide (x_6 < (r_0.s_.length : Int)))
    (idx r_0.s_ x_6 fun c17=>
    obind (z3z (c17.toNat:Int)) fun r18=>
    some (.go r18))
    (some (.go false)))
  (fun b11 =>
   cond b11
    (some (.go (IntKind.i64.wrap (x_6+1))))
    (some (.stop (.go x_6))))
def z3A (n:Nat) (r_0:zV):Option ((List UInt8)×zV):=
 bindJ (S:=Int)
  (iter (z43 r_0) n r_0.at_)
 (fun x_1 =>
  need (0≤r_0.at_∧r_0.at_≤x_1∧x_1≤(r_0.s_.length:Int)) (
  some (((r_0.s_.take x_1.toNat).drop ((r_0.at_).toNat)),(zV.mk r_0.s_ x_1))))
theorem z7Q {n:Nat} {r_0:zV} {j0:Nat} {r:(List UInt8)×zV} (h:z3A n r_0=some r) :
  Meets Tryz.prog 98 [boxP j0 0,.func (.func 100) #[] #[]] [box j0 [.string (bs r_0.s_),.int .i64 r_0.at_]] (fun v G=>v = .string (bs r.1)∧G=[box j0 [.string (bs r.2.s_),.int .i64 r.2.at_]]):=by
 refine zN func98 rfl ntmps98 rfl (fun w0 o0=>?_)
 refine yn 4 ?_
 refine zd (jr h [0,5] [0] (fun s (g:Unit)=>[]) (fun s g=>[box j0 [.string (bs r_0.s_),.int .i64 s]]) (fun _ h _ _ hL4=>?_) ?_)
 ·refine zF (lo h [0,1,5] [0] (fun s (g:Unit)=>[]) (fun s g=>[box j0 [.string (bs r_0.s_),.int .i64 s]]) () [0] ?_)
  rintro x_6 _ _ h _ j5 j3
  refine rs ?_
  refine yn 2 ?_
  refine rf [1] fun hS=>?_
  refine aq [0,1,2,3,4,5,6,7,8,9,10] ?_
  refine ab h [23] 0 [0,1,5] [1] (fun s=>[(32,.bool s)]) (fun s=>[]) (fun _ h _ j4=>?_) ?_
  ·refine z1L 20 (decide (x_6<(r_0.s_.length:Int))) rfl (fun j2=>?_) (fun j2=>?_)
   ·replace h:=z2F h j2
    refine aq [11,12,13,14,15,16,17,18,19] ?_
    obtain ⟨c17,j6,j7,j8,h⟩:=zP h
    refine aq [20] ?_
    refine al0 21 [] call100 (fun h=>z7P h) h (fun r18 h=>?_)
    refine aq [22] ?_
    exact aw (j4 _ (zU h).symm) [0]
   ·replace h:=z2E h j2
    refine aq [11,12,13,14,15,16,17,18,19,20,21,22] ?_
    exact aw (j4 _ (zU h).symm) [0]
  rintro b11 h
  refine az ?_
  refine z1K (by kernel_rfl) ?_
  refine yc 1 h (fun _ h=>?_) fun _ h=>?_
  ·refine yn 7 ?_
   exact gj j5 () [0] h
  ·refine z1h _ rfl ?_
   exact gk hL4 j3 () [0] h
 rintro x_1 _ h
 refine rs ?_
 refine zH (z4U (by kernel_rfl) (by kernel_rfl) ?_)
 refine yu ?_
 obtain ⟨hb21,h⟩:=zX h
 refine zu (z5R (l:=r_0.at_) (r:=x_1) runUnderlying9 rfl (bi1 (kd:=.i64) rfl) (bi1 (kd:=.i64) rfl) hb21.1 hb21.2.1 hb21.2.2) ?_
 refine yu ?_
 refine z2m ?_
 refine yn 2 ?_
 exact fs [4] [0] results98 h
def z4l (n:Nat):((List UInt8)×Int)→Option (Lp ((List UInt8)×Int) zV):=
 fun (x_1,x_2)=>
  obind (z3W n (zV.mk x_1 x_2)) fun r7=>
  bindJ (S:=Bool)
   (cond (decide (r7.2.at_ = (r7.2.s_.length : Int)))
    (some (.go true))
    (idx r7.2.s_ r7.2.at_ fun c15=>
    some (.go (decide ((c15.toNat:Int)≠35)))))
  (fun b9 =>
   cond b9
    (some (.stop r7.2))
    (obind (z3A n r7.2) fun r17=>
    some (.go (r17.2.s_,r17.2.at_))))
def z2M (n:Nat) (r_0:zV):Option (zV):=
 iter (z4l n) n (r_0.s_,r_0.at_)
theorem z5u {n:Nat} {r_0:zV} {j0:Nat} {r:zV} (h:z2M n r_0=some r) :
  Meets Tryz.prog 43 [boxP j0 0] [box j0 [.string (bs r_0.s_),.int .i64 r_0.at_]] (fun v G=>v = .tuple #[]∧G=[box j0 [.string (bs r.s_),.int .i64 r.at_]]):=by
 refine zN func43 rfl ntmps43 rfl (fun w0 o0=>?_)
 refine zF (lo h [0] [0] (fun s (g:Unit)=>[]) (fun s g=>[box j0 [.string (bs s.1),.int .i64 s.2]]) () [0] ?_)
 rintro ⟨_,_⟩ _ _ h _ jj jc
 refine rs ?_
 refine yn 3 ?_
 refine cl0 [(0,2)] call98 (fun h=>z8P h) h (fun r7 h=>?_)
 refine zc (zH (z4U (by kernel_rfl) (by kernel_rfl) ?_))
 refine yu ?_
 refine sbj h 11 [0] [1,2] (fun s=>[(25,.bool s)]) (fun s=>[]) (fun _ h _ _ jg=>?_) ?_
 ·refine z86 14 (decide (r7.2.at_=(r7.2.s_.length:Int))) rfl (fun jd=>?_) (fun jd=>?_)
  ·replace h:=z2F h jd
   refine yu ?_
   refine z2m ?_
   exact gb jg [0,1] h
  ·replace h:=z2E h jd
   refine yu ?_
   obtain ⟨c15,jl,jm,jo,h⟩:=zP h
   refine yu ?_
   refine z2m ?_
   exact gb jg [0,1] h
 rintro b9 h
 refine ss' ?_
 refine z2m ?_
 refine yc 1 h (fun _ h=>?_) fun _ h=>?_
 ·refine zA ?_
  obtain rfl:=zU h
  obtain rfl:=jc _ rfl
  exact ft [] [1] results43
 ·refine yn 3 ?_
  refine cl0 [(1,2)] call98 (fun h=>z7Q h) h (fun r17 h=>?_)
  refine yn 2 ?_
  exact gj jj () [2] h
def z82 (b_0:Int):Option (Bool):=
 some (decide (97≤b_0) && decide (b_0≤122))
theorem zcw:K1 z82 90:=by
 intro b_0 r h
 refine zN func90 rfl ntmps90 rfl (fun w0 o0=>?_)
 refine yn 4 ?_
 refine oq 3 5 8 [] [] (decide (97≤b_0) && decide (b_0≤122)) ?_
 refine yn 3 ?_
 exact fs [2] [] results90 h
def z6s (b_0:Int):Option (Bool):=
 some (decide (48≤b_0) && decide (b_0≤57))
theorem za0:K1 z6s 92:=by
 intro b_0 r h
 refine zN func92 rfl ntmps92 rfl (fun w0 o0=>?_)
 refine yn 4 ?_
 refine oq 3 5 8 [] [] (decide (48≤b_0) && decide (b_0≤57)) ?_
 refine yn 3 ?_
 exact fs [2] [] results92 h
def z6t (b_0:Int):Option (Bool):=
 obind (z82 b_0) fun r1=>
 bindJ (S:=Bool)
  (cond r1
   (some (.go true))
   (obind (z6s b_0) fun r9=>
   some (.go r9)))
 (fun b3 =>
  some (b3 || decide (b_0=95)))
theorem zdF:K1 z6t 159:=by
 intro b_0 r h
 refine zN func159 rfl ntmps159 rfl (fun w0 o0=>?_)
 refine yn 4 ?_
 refine cl0 [] call90 (fun h=>zcw h) h (fun r1 h=>?_)
 refine ys ?_
 refine ob h 3 [0] [] (fun s=>[(8,.bool s)]) (fun s=>[]) (fun _ h _ _ hL7=>?_) ?_
 ·refine z1c 5 r1 rfl (fun hg8=>?_) (fun hg8=>?_)
  ·replace h:=z2F h hg8
   refine yn 2 ?_
   exact gb hL7 [] h
  ·replace h:=z2E h hg8
   refine ys ?_
   refine cl0 [] call92 (fun h=>za0 h) h (fun r9 h=>?_)
   refine yn 2 ?_
   exact gb hL7 [] h
 rintro b3 h
 refine os ?_
 refine ys ?_
 refine oq 3 9 12 [] [] (b3 || decide (b_0=95)) ?_
 refine yn 3 ?_
 exact fs [2] [] results159 h
def z44 (r_0:zV):(Int)→Option (Lp (Int) (Lp (Int) ((List UInt8)×zV))):=
 fun x_6=>
  bindJ (S:=Bool)
   (cond (decide (x_6 < (r_0.s_.length : Int)))
    (idx r_0.s_ x_6 fun c17=>
    obind (z6t (c17.toNat:Int)) fun r18=>
    some (.go r18))
    (some (.go false)))
  (fun b11 =>
   cond b11
    (some (.go (IntKind.i64.wrap (x_6+1))))
    (some (.stop (.go x_6))))
def z3B (n:Nat) (r_0:zV):Option ((List UInt8)×zV):=
 bindJ (S:=Int)
  (iter (z44 r_0) n r_0.at_)
 (fun x_1 =>
  need (0≤r_0.at_∧r_0.at_≤x_1∧x_1≤(r_0.s_.length:Int)) (
  some (((r_0.s_.take x_1.toNat).drop ((r_0.at_).toNat)),(zV.mk r_0.s_ x_1))))
theorem z7R {n:Nat} {r_0:zV} {j0:Nat} {r:(List UInt8)×zV} (h:z3B n r_0=some r) :
  Meets Tryz.prog 98 [boxP j0 0,.func (.func 159) #[] #[]] [box j0 [.string (bs r_0.s_),.int .i64 r_0.at_]] (fun v G=>v = .string (bs r.1)∧G=[box j0 [.string (bs r.2.s_),.int .i64 r.2.at_]]):=by
 refine zN func98 rfl ntmps98 rfl (fun w0 o0=>?_)
 refine yn 4 ?_
 refine zd (jr h [0,5] [0] (fun s (g:Unit)=>[]) (fun s g=>[box j0 [.string (bs r_0.s_),.int .i64 s]]) (fun _ h _ _ hL4=>?_) ?_)
 ·refine zF (lo h [0,1,5] [0] (fun s (g:Unit)=>[]) (fun s g=>[box j0 [.string (bs r_0.s_),.int .i64 s]]) () [0] ?_)
  rintro x_6 _ _ h _ j5 j3
  refine rs ?_
  refine yn 2 ?_
  refine rf [1] fun hS=>?_
  refine aq [0,1,2,3,4,5,6,7,8,9,10] ?_
  refine ab h [23] 0 [0,1,5] [1] (fun s=>[(32,.bool s)]) (fun s=>[]) (fun _ h _ j4=>?_) ?_
  ·refine z1L 20 (decide (x_6<(r_0.s_.length:Int))) rfl (fun j2=>?_) (fun j2=>?_)
   ·replace h:=z2F h j2
    refine aq [11,12,13,14,15,16,17,18,19] ?_
    obtain ⟨c17,j6,j7,j8,h⟩:=zP h
    refine aq [20] ?_
    refine al0 21 [] call159 (fun h=>zdF h) h (fun r18 h=>?_)
    refine aq [22] ?_
    exact aw (j4 _ (zU h).symm) [0]
   ·replace h:=z2E h j2
    refine aq [11,12,13,14,15,16,17,18,19,20,21,22] ?_
    exact aw (j4 _ (zU h).symm) [0]
  rintro b11 h
  refine az ?_
  refine z1K (by kernel_rfl) ?_
  refine yc 1 h (fun _ h=>?_) fun _ h=>?_
  ·refine yn 7 ?_
   exact gj j5 () [0] h
  ·refine z1h _ rfl ?_
   exact gk hL4 j3 () [0] h
 rintro x_1 _ h
 refine rs ?_
 refine zH (z4U (by kernel_rfl) (by kernel_rfl) ?_)
 refine yu ?_
 obtain ⟨hb21,h⟩:=zX h
 refine zu (z5R (l:=r_0.at_) (r:=x_1) runUnderlying9 rfl (bi1 (kd:=.i64) rfl) (bi1 (kd:=.i64) rfl) hb21.1 hb21.2.1 hb21.2.2) ?_
 refine yu ?_
 refine z2m ?_
 refine yn 2 ?_
 exact fs [4] [0] results98 h
def zdf  : Option ((List (List UInt8))):=
 obind (zht [97,108,108,111,119,32,97,110,100,32,99,108,105,101,110,116,115,32,99,111,115,116,32,99,111,117,110,116,114,105,101,115,32,100,101,102,97,117,108,116,32,100,101,110,121,32,100,111,119,110,32,101,102,102,101,99,116,115,32,101,108,115,101,32,102,97,108,115,101,32,102,114,101,115,104,32,102,114,111,109,32,104,101,97,100,101,114,32,105,102,32,105,110,32,108,101,116,32,108,111,103,32,110,101,103,97,116,105,118,101,32,110,111,116,32,111,114,32,112,97,116,116,101,114,110,32,112,111,108,105,99,121,32,112,114,111,103,114,97,109,32,114,101,97,100,115,32,114,101,112,101,97,116,32,114,101,112,108,121,32,114,117,108,101,32,115,101,116,32,115,105,103,110,101,100,32,115,105,116,101,115,32,115,116,97,108,101,32,115,116,97,116,117,115,32,116,97,103,115,32,116,111,32,116,114,117,101,32,117,115,101,115,32,118,97,114,121,32,119,114,105,116,101,115]) fun r1=>
 some r1
theorem zi8 {r:(List (List UInt8))} (h:zdf=some r) :
  Meets Tryz.prog 200 [] [globA] (fun v G=>∃ v0,v=v0∧G=[row v0 1 (r.map eStr)]):=by
 refine zN func200 rfl ntmps200 rfl (fun w0 o0=>?_)
 refine yn 3 ?_
 obtain ⟨r1,hr2,h⟩:=zJ h
 refine zt (tc [(0,0)] call164 (ziU [97,108,108,111,119,32,97,110,100,32,99,108,105,101,110,116,115,32,99,111,115,116,32,99,111,117,110,116,114,105,101,115,32,100,101,102,97,117,108,116,32,100,101,110,121,32,100,111,119,110,32,101,102,102,101,99,116,115,32,101,108,115,101,32,102,97,108,115,101,32,102,114,101,115,104,32,102,114,111,109,32,104,101,97,100,101,114,32,105,102,32,105,110,32,108,101,116,32,108,111,103,32,110,101,103,97,116,105,118,101,32,110,111,116,32,111,114,32,112,97,116,116,101,114,110,32,112,111,108,105,99,121,32,112,114,111,103,114,97,109,32,114,101,97,100,115,32,114,101,112,101,97,116,32,114,101,112,108,121,32,114,117,108,101,32,115,101,116,32,115,105,103,110,101,100,32,115,105,116,101,115,32,115,116,97,108,101,32,115,116,97,116,117,115,32,116,97,103,115,32,116,111,32,116,114,117,101,32,117,115,101,115,32,118,97,114,121,32,119,114,105,116,101,115] hr2)) ?_
 rintro v3 _ ⟨_,⟨_,rfl,rfl⟩,rfl⟩
 refine yn 3 ?_
 exact fs [0] [1] results200 h
def z26 (s_0:(List (List UInt8))) (v_1:(List UInt8)):(Int)→Option (Lp (Int) (Lp (Unit) (Int))):=
 fun s_5=>
  cond (decide (s_5<(s_0.length:Int)))
   (idx s_0 s_5 fun x11=>
   cond (decide (v_1=x11))
    (some (.stop (.stop s_5)))
    (some (.go (IntKind.i64.wrap (s_5+1)))))
   (some (.stop (.go ())))
def z2o (n:Nat) (s_0:(List (List UInt8))) (v_1:(List UInt8)):Option (Int):=
 bindJ (S:=Unit)
  (iter (z26 s_0 v_1) n 0)
 (fun _ =>
  some (-1))
theorem z3y {n:Nat} {s_0:(List (List UInt8))} {v_1:(List UInt8)} {j9:Value} {r:Int} (h:z2o n s_0 v_1=some r) :
  Meets Tryz.prog 144 [j9,.string (bs v_1)] [ro j9 1 (s_0.map eStr)] (fun v G=>v = .int .i64 r∧G=[]):=by
 refine zN func144 rfl ntmps144 rfl (fun w0 o0=>?_)
 refine yn 2 ?_
 refine zd (jr h [] [] (fun s (g:Unit)=>[]) (fun s g=>[]) (fun _ h ho2 _ hL3=>?_) ?_)
 ·refine yn 4 ?_
  refine lo h [0,1,7] [1] (fun s (g:Unit)=>[(8,.int .i64 s)]) (fun s g=>[]) () [0] ?_
  rintro _ _ _ h _ jk ja
  refine rs ?_
  refine yc 3 h (fun _ h=>?_) fun _ h=>?_
  ·refine yn 7 ?_
   obtain ⟨x11,jp,jq,js,h⟩:=zP h
   refine yc 2 h (fun _ h=>?_) fun _ h=>?_
   ·refine zH (rj [5] [] ?_)
    refine yn 4 ?_
    obtain rfl:=zU h
    obtain rfl:=ja _ rfl
    skip
    obtain rfl:=zM ho2
    exact ft [4] [] results144
   ·refine yn 2 ?_
    refine zD (rj [8,0,1,7] [0] ?_)
    refine yn 3 ?_
    exact gj jk () [0] h
  ·refine z1h _ rfl ?_
   exact gk hL3 ja () [] h
 rintro _ _ h
 refine rs ?_
 refine yn 4 ?_
 exact fs [4] [] results144 h
def z2T (n:Nat) (s_0:(List (List UInt8))) (v_1:(List UInt8)):Option (Bool):=
 obind (z2o n s_0 v_1) fun r1=>
 some (decide (0≤r1))
theorem z54 {n:Nat} {s_0:(List (List UInt8))} {v_1:(List UInt8)} {j9:Value} {r:Bool} (h:z2T n s_0 v_1=some r) :
  Meets Tryz.prog 163 [j9,.string (bs v_1)] [ro j9 1 (s_0.map eStr)] (fun v G=>v = .bool r∧G=[]):=by
 refine zN func163 rfl ntmps163 rfl (fun w0 o0=>?_)
 refine yn 4 ?_
 refine cl0 [(0,0)] call144 (fun h=>z3y h) h (fun r1 h=>?_)
 refine yn 3 ?_
 exact fs [4] [] results163 h
def zeo (n:Nat) (s_0:(List UInt8)):Option (Bool):=
 obind (zdf) fun r1=>
 obind (z2T n r1 s_0) fun r4=>
 some r4
theorem zj1 {n:Nat} {s_0:(List UInt8)} {r:Bool} (h:zeo n s_0=some r) :
  Meets Tryz.prog 160 [.string (bs s_0)] [globA] (fun v G=>v = .bool r∧G=[]):=by
 refine zN func160 rfl ntmps160 rfl (fun w0 o0=>?_)
 refine yn 3 ?_
 obtain ⟨r1,hr2,h⟩:=zJ h
 refine zt (tc [(0,0)] call200 (zi8 hr2)) ?_
 rintro v3 _ ⟨_,⟨_,rfl,rfl⟩,rfl⟩
 refine ys ?_
 refine cl0 [(1,1)] call163 (fun h=>z54 h) h (fun r4 h=>?_)
 refine yn 3 ?_
 exact fs [2] [] results160 h
def z9m (jb:Bool) (e_1:Int):Option (Pn (Unit)):=
 cond jb
  (some (.pan e_1))
  (some (.ret ()))
theorem z9n {jb:Bool} {e_1:Int} {r:Pn (Unit)} (h:z9m jb e_1=some r) :
  z4t Tryz.prog 161 [.bool jb,.int .i64 e_1] [] (fun v G=>∃ q,r = .ret q∧(v = .tuple #[]∧G=[])) (fun v=>∃ e,r = .pan e∧v = .iface 27 (.int .i64 e)):=by
 refine z1y func161 rfl ntmps161 rfl (fun w0 o0=>?_)
 refine yc 3 h (fun _ h=>?_) fun _ h=>?_
 ·refine yn 2 ?_
  refine zq (zgc runUnderlying27 rfl rfl) ?_
  refine zic _ (wn rfl) (zjX rfl) ?_
  obtain rfl:=zU h
  exact finP ⟨_,rfl,rfl⟩
 ·refine yn 2 ?_
  exact fs [] [] results161 h
def z3s (n:Nat) (r_0:zV):Option (Pn (z6×zV)):=
 obind (z3B n r_0) fun r2=>
 obind (zeo n r2.1) fun r4=>
 cond r4
  (some (.ret ((z6.mk 2 0 r2.1),r2.2)))
  (obind (z9m (decide (40<(r2.1.length:Int))) 2) fun r7=>
  pbind r7 (fun e10=>
   some (.pan e10)) fun q9=>
  some (.ret ((z6.mk 1 0 r2.1),r2.2)))
theorem z5L {n:Nat}:K2 (z3s n) 91:=by
 intro r_0 j0 r h
 refine z1y func91 rfl ntmps91 rfl (fun w0 o0=>?_)
 refine zh (al fun b1=>?_)
 refine yn 2 ?_
 refine cl0 [(0,2)] call98 (fun h=>z7R h) h (fun r2 h=>?_)
 refine yn 4 ?_
 refine cl0 [(1,0)] call160 (fun h=>zj1 h) h (fun r4 h=>?_)
 refine yc 1 h (fun _ h=>?_) fun _ h=>?_
 ·refine yn 4 ?_
  exact fr [3] results91 h
 ·refine yn 3 ?_
  refine cp0 [] call161 (fun h=>z9n h) h (fun _ h=>?_)
  refine zc (rj [2,3] [1,2,3] ?_)
  refine yn 4 ?_
  exact fr [2] results91 h
def z45 (r_0:zV):(Int)→Option (Lp (Int) (Lp (Int) ((List UInt8)×zV))):=
 fun x_6=>
  bindJ (S:=Bool)
   (cond (decide (x_6 < (r_0.s_.length : Int)))
    (idx r_0.s_ x_6 fun c17=>
    obind (z6s (c17.toNat:Int)) fun r18=>
    some (.go r18))
    (some (.go false)))
  (fun b11 =>
   cond b11
    (some (.go (IntKind.i64.wrap (x_6+1))))
    (some (.stop (.go x_6))))
def z3C (n:Nat) (r_0:zV):Option ((List UInt8)×zV):=
 bindJ (S:=Int)
  (iter (z45 r_0) n r_0.at_)
 (fun x_1 =>
  need (0≤r_0.at_∧r_0.at_≤x_1∧x_1≤(r_0.s_.length:Int)) (
  some (((r_0.s_.take x_1.toNat).drop ((r_0.at_).toNat)),(zV.mk r_0.s_ x_1))))
theorem z7S {n:Nat} {r_0:zV} {j0:Nat} {r:(List UInt8)×zV} (h:z3C n r_0=some r) :
  Meets Tryz.prog 98 [boxP j0 0,.func (.func 92) #[] #[]] [box j0 [.string (bs r_0.s_),.int .i64 r_0.at_]] (fun v G=>v = .string (bs r.1)∧G=[box j0 [.string (bs r.2.s_),.int .i64 r.2.at_]]):=by
 refine zN func98 rfl ntmps98 rfl (fun w0 o0=>?_)
 refine yn 4 ?_
 refine zd (jr h [0,5] [0] (fun s (g:Unit)=>[]) (fun s g=>[box j0 [.string (bs r_0.s_),.int .i64 s]]) (fun _ h _ _ hL4=>?_) ?_)
 ·refine zF (lo h [0,1,5] [0] (fun s (g:Unit)=>[]) (fun s g=>[box j0 [.string (bs r_0.s_),.int .i64 s]]) () [0] ?_)
  rintro x_6 _ _ h _ j5 j3
  refine rs ?_
  refine yn 2 ?_
  refine rf [1] fun hS=>?_
  refine aq [0,1,2,3,4,5,6,7,8,9,10] ?_
  refine ab h [23] 0 [0,1,5] [1] (fun s=>[(32,.bool s)]) (fun s=>[]) (fun _ h _ j4=>?_) ?_
  ·refine z1L 20 (decide (x_6<(r_0.s_.length:Int))) rfl (fun j2=>?_) (fun j2=>?_)
   ·replace h:=z2F h j2
    refine aq [11,12,13,14,15,16,17,18,19] ?_
    obtain ⟨c17,j6,j7,j8,h⟩:=zP h
    refine aq [20] ?_
    refine al0 21 [] call92 (fun h=>za0 h) h (fun r18 h=>?_)
    refine aq [22] ?_
    exact aw (j4 _ (zU h).symm) [0]
   ·replace h:=z2E h j2
    refine aq [11,12,13,14,15,16,17,18,19,20,21,22] ?_
    exact aw (j4 _ (zU h).symm) [0]
  rintro b11 h
  refine az ?_
  refine z1K (by kernel_rfl) ?_
  refine yc 1 h (fun _ h=>?_) fun _ h=>?_
  ·refine yn 7 ?_
   exact gj j5 () [0] h
  ·refine z1h _ rfl ?_
   exact gk hL4 j3 () [0] h
 rintro x_1 _ h
 refine rs ?_
 refine zH (z4U (by kernel_rfl) (by kernel_rfl) ?_)
 refine yu ?_
 obtain ⟨hb21,h⟩:=zX h
 refine zu (z5R (l:=r_0.at_) (r:=x_1) runUnderlying9 rfl (bi1 (kd:=.i64) rfl) (bi1 (kd:=.i64) rfl) hb21.1 hb21.2.1 hb21.2.2) ?_
 refine yu ?_
 refine z2m ?_
 refine yn 2 ?_
 exact fs [4] [0] results98 h
def z36 (n:Nat) (r_0:zV):Option (Pn (z6×zV)):=
 obind (z3C n r_0) fun r2=>
 bindJ (S:=Int)
  (cond (decide (r2.2.at_ < (r2.2.s_.length : Int)))
   (idx r2.2.s_ r2.2.at_ fun c10=>
   some (.go (c10.toNat:Int)))
   (some (.go 32)))
 (fun j1 =>
  bindJ (S:=Bool)
   (cond (decide (18 < (r2.1.length : Int)))
    (some (.go true))
    (idx r2.1 0 fun c17=>
    some (.go (decide ((c17.toNat:Int)=48) && decide (1<(r2.1.length:Int))))))
  (fun b11 =>
   bindJ (S:=Bool)
    (cond b11
     (some (.go true))
     (obind (z6t j1) fun r27=>
     some (.go r27)))
   (fun b21 =>
    obind (z9m (b21 || (decide (65≤j1) && decide (j1≤90))) 181) fun r35=>
    pbind r35 (fun e38=>
     some (.pan e38)) fun q37=>
    some (.ret ((z6.mk 3 0 r2.1),r2.2)))))
theorem z5n {n:Nat}:K3 (z36 n) 93:=by
 intro r_0 j0 r h
 refine z1y func93 rfl ntmps93 rfl (fun w0 o0=>?_)
 refine zh (al fun b1=>?_)
 refine yn 2 ?_
 refine cl0 [(0,2)] call98 (fun h=>z7S h) h (fun r2 h=>?_)
 refine yn 3 ?_
 refine zd (jr h [2,3] [2,3] (fun s (g:Unit)=>[(4,.int .u8 s)]) (fun s g=>[]) (fun _ h _ _ hL7=>?_) ?_)
 ·refine zH (z4U (by kernel_rfl) (by kernel_rfl) ?_)
  refine yu ?_
  refine z2m ?_
  refine yc 1 h (fun _ h=>?_) fun _ h=>?_
  ·refine rj [0,2,3] [1,2] ?_
   refine z4U (by kernel_rfl) (by kernel_rfl) ?_
   refine yu ?_
   obtain ⟨c10,jt,ju,jv,h⟩:=zP h
   refine yu ?_
   refine z2m ?_
   exact gj hL7 () [0,1] h
  ·exact run_skip (gj hL7 () [1,2] h)
 rintro j1 _ h
 refine rs ?_
 refine yn 2 ?_
 refine ob h 9 [4,2,3] [1,2] (fun s=>[(38,.bool s)]) (fun s=>[]) (fun _ h _ _ j4=>?_) ?_
 ·refine z1c 29 (decide (18<(r2.1.length:Int))) rfl (fun j2=>?_) (fun j2=>?_)
  ·replace h:=z2F h j2
   refine ys ?_
   refine z2p 7 true 33 rfl rfl rfl rfl rfl ?_
   refine z2p 7 true 33 rfl rfl rfl rfl rfl ?_
   refine z2p 7 true 33 rfl rfl rfl rfl rfl ?_
   refine yn 2 ?_
   exact gb j4 [0,1] h
  ·replace h:=z2E h j2
   refine ys ?_
   obtain ⟨c17,j6,j7,j8,h⟩:=zP h
   refine ys ?_
   refine oq 4 33 37 [4,2,3,29] [0,1] (decide ((c17.toNat:Int)=48) && decide (1<(r2.1.length:Int))) ?_
   refine yn 2 ?_
   exact gb j4 [0,1] h
 rintro b11 h
 refine os ?_
 refine ys ?_
 refine ob h 3 [4,2,3] [1,2] (fun s=>[(42,.bool s)]) (fun s=>[]) (fun _ h _ _ jh=>?_) ?_
 ·refine z1c 39 b11 rfl (fun je=>?_) (fun je=>?_)
  ·replace h:=z2F h je
   refine yn 2 ?_
   exact gb jh [0,1] h
  ·replace h:=z2E h je
   refine ys ?_
   refine cl0 [] call159 (fun h=>zdF h) h (fun r27 h=>?_)
   refine yn 2 ?_
   exact gb jh [0,1] h
 rintro b21 h
 refine os ?_
 refine ys ?_
 refine oe 7 [2,3] [1,2] (fun s=>[(50,.bool s)]) (b21 || (decide (65≤j1) && decide (j1≤90))) (fun _ ji=>?_) ?_
 ·refine z1c 43 b21 rfl (fun jf=>?_) (fun jf=>?_)
  ·skip
   refine ys ?_
   refine z2p 20 true 46 rfl rfl rfl rfl rfl ?_
   refine z2p 20 true 46 rfl rfl rfl rfl rfl ?_
   refine yn 2 ?_
   exact gc ji true [0,1] (hi:=by rw [jf]; simp)
  ·skip
   refine ys ?_
   refine oq 3 46 49 [2,3,43] [0,1] (decide (65≤j1) && decide (j1≤90)) ?_
   refine yn 2 ?_
   exact gc ji (decide (65≤j1) && decide (j1≤90)) [0,1] (hi:=by rw [jf]; simp)
 refine os ?_
 refine cp0 [] call161 (fun h=>z9n h) h (fun _ h=>?_)
 refine yn 4 ?_
 exact fr [1] results93 h
def z8o (b_0:Int):Option (Bool):=
 some (decide (b_0=34))
theorem zep:K1 z8o 94:=by
 intro b_0 r h
 refine zN func94 rfl ntmps94 rfl (fun w0 o0=>?_)
 refine yn 6 ?_
 exact fs [2] [] results94 h
end Go.Proofs.YtcmaoifiiigggaaGreatDoor
