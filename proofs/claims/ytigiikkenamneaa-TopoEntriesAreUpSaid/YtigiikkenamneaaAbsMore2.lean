/-
  More operations: strings ordered and joined, the length of a map.
-/
import Derived.Test.YtigiikkenamneaaAbsCopy
import Derived.Test.YtigiikkenamneaaAbsRange
import Derived.Test.YtigiikkenamneaaAbsIface
namespace Go.Abs
set_option linter.unusedSimpArgs false
variable {V : VF} {H : List HA}
section
variable {P : Program} {d : Option Nat} {ty : TypeId} {pos : String} {af : Array Edge} {g : Option (Nat × Bool)}
def strLt (a b : List UInt8) : Bool := Op.bytesLess a b
theorem seq_dec (a b : List UInt8) : ((bs a).toList == (bs b).toList) = decide (a = b) := by rw [bs_toList, bs_toList]; exact beq_dec a b
theorem y_slss {T U : TypeId} {x y : Operand} {a b : List UInt8} (hx : V.ev x = some (.string (bs a))) (hy : V.ev y = some (.string (bs b))) :
    OpY P ⟨d, .binOp .lss T x y U, ty, pos, af, g⟩ V H (.bool (strLt a b)) := y_bin hx hy rfl (fun w => by simp [binOp, Op.stringOp, strLt, bs_toList])
theorem y_sleq {T U : TypeId} {x y : Operand} {a b : List UInt8} (hx : V.ev x = some (.string (bs a))) (hy : V.ev y = some (.string (bs b))) :
    OpY P ⟨d, .binOp .leq T x y U, ty, pos, af, g⟩ V H (.bool (strLt a b || decide (a = b))) := y_bin hx hy rfl (fun w => by
      have h := beq_dec a b
      simp only [binOp, Op.stringOp, bs_toList, h]; rfl)
theorem y_sgtr {T U : TypeId} {x y : Operand} {a b : List UInt8} (hx : V.ev x = some (.string (bs a))) (hy : V.ev y = some (.string (bs b))) :
    OpY P ⟨d, .binOp .gtr T x y U, ty, pos, af, g⟩ V H (.bool (!(strLt a b || decide (a = b)))) := y_bin hx hy rfl (fun w => by
      have h := beq_dec a b
      simp only [binOp, Op.stringOp, bs_toList, h]; rfl)
theorem y_sgeq {T U : TypeId} {x y : Operand} {a b : List UInt8} (hx : V.ev x = some (.string (bs a))) (hy : V.ev y = some (.string (bs b))) :
    OpY P ⟨d, .binOp .geq T x y U, ty, pos, af, g⟩ V H (.bool (!strLt a b)) := y_bin hx hy rfl (fun w => by simp [binOp, Op.stringOp, strLt, bs_toList])
theorem y_sadd {T U : TypeId} {x y : Operand} {a b : List UInt8} (hx : V.ev x = some (.string (bs a))) (hy : V.ev y = some (.string (bs b))) (hl : a.length + b.length ≤ 4294967296) :
    OpY P ⟨d, .binOp .add T x y U, ty, pos, af, g⟩ V H (.string (bs (a ++ b))) := y_bin hx hy rfl (fun w => by
      have e : bs a ++ bs b = bs (a ++ b) := by
        apply ByteArray.ext
        simp [bs]
      have h2 : ¬ ((((bs a).size + (bs b).size : Nat) : Int) > IntKind.i64.max) := by
        rw [bs_size, bs_size]
        have : IntKind.i64.max = 9223372036854775807 := by decide
        omega
      simp only [binOp, Op.stringOp, if_neg h2, e]; rfl)
theorem y_nilE {x : Operand} {v : Value} {n : Nat} (hx : V.ev x = some (elemP v n)) : OpY P ⟨d, .nilCheck x, ty, pos, af, g⟩ V H (elemP v n) := y_nilElem hx (by simp [elemP]) ⟨_, rfl⟩
theorem allL_nil {α : Type} {p : α → Prop} : ∀ u ∈ ([] : List α), p u := fun u h => by cases h
theorem allL_cons {α : Type} {p : α → Prop} {a : α} {l : List α} (h : p a) (r : ∀ u ∈ l, p u) : ∀ u ∈ a :: l, p u := fun u hu => by
  rcases List.mem_cons.1 hu with rfl | hu
  · exact h
  · exact r u hu
theorem set_at {α : Type} {l : List α} {i : Nat} {x : α} (h : i < l.length) : (l.set i x)[i]? = some x := by simp [h]
theorem set_lt {α : Type} {l : List α} {i j : Nat} {x : α} (h : i < l.length) : i < (l.set j x).length := by simpa using h
theorem y_len_map {κ β : Type} [DecidableEq κ] {K : κ → Value} {G : β → Value} {Ts : Array TypeId} {T kt el : TypeId} {x : Operand} {r : Nat} {l : List (κ × β)} (m : Nat) (hT : Ts[0]? = some T) (hu : ∀ w, (underlying T).run P w = .ok (.map kt el) w)
    (hx : V.ev x = some (mapV r)) (hm : H[m]? = some (mapis r (mcells K G l))) : OpY P ⟨d, .call ⟨.builtin .len, #[x], Ts⟩, ty, pos, af, g⟩ V H (.int .i64 l.length) := by
  intro ρ w o hf _ hs
  obtain ⟨_, _, es, cl, e3, e4⟩ := hs m _ hm
  have h2 : (getObj r).run P w = .ok (.map es cl) w := by simp [getObj, Sem.run, e3]
  have h3 : es.size = l.length := by
    have := congrArg List.length e4
    simpa [mcells] using this
  simp [execOp, resolve, invoke, builtin, hf x _ hx, Builtin.len_, hT, hu, mapV, h2, h3, goInt]
end
end Go.Abs
