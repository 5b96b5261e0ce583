import Derived.Test.YtcmaoifiiigggaaGreatDoorFa
set_option linter.unusedSimpArgs false
set_option linter.unusedVariables false
namespace Go.Proofs.YtcmaoifiiigggaaGreatDoor
open Go.Abs
set_option maxRecDepth 20000
set_option maxHeartbeats 4000000
abbrev K25 (u:(List zl)→Int→Option (Int)) (F:FuncId):Prop:=∀ {a0:(List zl)} {a1:Int} {g0:Value} {r:Int},u a0 a1=some r→Meets Tryz.prog F [g0,.int .i64 a1] [nro g0 zp a0] (fun v G=>v = .int .i64 r∧G=[])
abbrev K26 (u:zi→Int→Option (Int)) (F:FuncId):Prop:=∀ {a0:zi} {a1:Int} {g0:Value} {r:Int},u a0 a1=some r→Meets Tryz.prog F [.agg #[.int .i64 a0.Op,.int .i64 a0.At,.string (bs a0.S),g0],.int .i64 a1] [nro g0 zj a0.Args] (fun v G=>v = .int .i64 r∧G=[])
abbrev K27 (u:(List zm)→Int→Option (Int)) (F:FuncId):Prop:=∀ {a0:(List zm)} {a1:Int} {g0:Value} {r:Int},u a0 a1=some r→Meets Tryz.prog F [g0,.int .i64 a1] [nro g0 zE a0] (fun v G=>v = .int .i64 r∧G=[])
abbrev K28 (u:zo→(List zl)→Bool→Option (Pn (zo))) (F:FuncId):Prop:=∀ {a0:zo} {a1:(List zl)} {a2:Bool} {g0:Nat} {g1:Value} {g2:Value} {r:Pn (zo)},u a0 a1 a2=some r→z4t Tryz.prog F [boxP g0 0,g2,.bool a2] [row g1 3 (a0.l_.map z6.enc),box g0 [g1],nro g2 zp a1] (fun v G=>∃ q,r = .ret q∧(∃ v0,v = .tuple #[]∧G=[row v0 3 (q.l_.map z6.enc),box g0 [v0]])) (fun v=>∃ e,r = .pan e∧v = .iface 27 (.int .i64 e))
abbrev K29 (u:zo→(List zm)→Option (Pn (zo))) (F:FuncId):Prop:=∀ {a0:zo} {a1:(List zm)} {g0:Nat} {g1:Value} {g2:Value} {r:Pn (zo)},u a0 a1=some r→z4t Tryz.prog F [boxP g0 0,g2] [row g1 3 (a0.l_.map z6.enc),box g0 [g1],nro g2 zE a1] (fun v G=>∃ q,r = .ret q∧(∃ v0,v = .tuple #[]∧G=[row v0 3 (q.l_.map z6.enc),box g0 [v0]])) (fun v=>∃ e,r = .pan e∧v = .iface 27 (.int .i64 e))
abbrev K30 (u:zo→zm→Option (Pn (zo))) (F:FuncId):Prop:=∀ {a0:zo} {a1:zm} {g0:Nat} {g1:Value} {g2:Value} {g3:Value} {g4:Value} {r:Pn (zo)},u a0 a1=some r→z4t Tryz.prog F [boxP g0 0,.agg #[.int .i64 a1.Kind,.int .i64 a1.At,.string (bs a1.Name),.int .i64 a1.X.Op,.int .i64 a1.X.At,.string (bs a1.X.S),g2,g3,g4]] [row g1 3 (a0.l_.map z6.enc),box g0 [g1],nro g2 zj a1.X.Args,nro g3 zE a1.Body,nro g4 zE a1.Else] (fun v G=>∃ q,r = .ret q∧(∃ v0,v = .tuple #[]∧G=[row v0 3 (q.l_.map z6.enc),box g0 [v0]])) (fun v=>∃ e,r = .pan e∧v = .iface 27 (.int .i64 e))
end Go.Proofs.YtcmaoifiiigggaaGreatDoor
namespace Go
theorem yA {α : Type} (a b c : List α) : a ++ b ++ c = a ++ (b ++ c) := List.append_assoc a b c
theorem yB {α : Type} {a b : List α} : (a ++ b).length = a.length + b.length := List.length_append
theorem yC {α : Type} {a : α} {b : List α} : (a :: b).length = b.length + 1 := rfl
theorem yD {α : Type} (a : List α) : [] ++ a = a := rfl
theorem yE {α : Type} {a : α} {b c : List α} : (a :: b) ++ c = a :: (b ++ c) := rfl
theorem yF {α : Type} : ([] : List α).length = 0 := rfl
theorem yG (b : Bool) : b = true ∨ b = false := Bool.eq_false_or_eq_true b
theorem yH (n : Nat) : ¬n < 0 := Nat.not_lt_zero n
theorem yI {α β : Type} {f : α → β} {a : α} {l : List α} : (a :: l).map f = f a :: l.map f := rfl
theorem yJ {α : Type} {a b : α} : cond false a b = b := rfl
theorem yK {α : Type} {a b : α} : cond true a b = a := rfl
theorem yX (n : Nat) : 0 ≤ n := Nat.zero_le n
theorem yY (n : Nat) : (n : Int).toNat = n := rfl
theorem yZ : (¬False) = True := not_false_eq_true
theorem y0 {α : Type} {a : α} : ¬a ∈ [] := List.not_mem_nil
theorem y1 {α : Type} {a b : α} {l : List α} : a ∈ b :: l ↔ a = b ∨ a ∈ l := List.mem_cons
theorem yN : (false = true) = False := Bool.false_eq_true
theorem yO {α β : Type} (a : α) (f : α → Option β) : (some a).bind f = f a := rfl
theorem yP {h : Decidable False} : @decide False h = false := decide_false h
theorem yQ {h : Decidable True} : @decide True h = true := decide_true h
theorem yR {α : Sort _} {h : Decidable False} (a b : α) : @ite α False h a b = b := if_false a b
theorem yS {α : Sort _} {h : Decidable True} (a b : α) : @ite α True h a b = a := if_true a b
theorem yT : (!false) = true := rfl
theorem yU : (!true) = false := rfl
theorem yV : (¬True) = False := not_true_eq_false
theorem yW {a b : Nat} : (a : Int) < (b : Int) ↔ a < b := Int.ofNat_lt
theorem yL {p : Prop} [i : Decidable p] (h : ¬p) : decide p = false := decide_eq_false h
theorem yM {p : Prop} [i : Decidable p] (h : p) : decide p = true := decide_eq_true h
end Go
