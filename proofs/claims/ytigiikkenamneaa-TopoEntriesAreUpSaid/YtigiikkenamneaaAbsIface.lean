/-
  Interface values: made, and a method of the value within called.
-/
import Derived.Test.YtigiikkenamneaaAbsRange
namespace Go.Abs
variable {E : Env} {k : List KI} {V : VF} {H : List HA} {P : Program}
theorem callx_core {f : FuncId} {vs : List Value} {Hc : List HA} {post : Post} (sh : List (Nat × Nat)) (hcall : ∀ args w, (callFunc f args).run P w = .ok (.enter f args) w)
    (hc : Meets P f vs Hc post) (hsh : ShowsX H sh Hc) (hok : okX sh = true) (hst : (sh.all fun s => s.2 != 1) = true ∨ ∀ v G, post v G → ∀ g ∈ G, g.Strict) {w : World} {o : Own} (hbd : Bnd w o) (hs : Sats w o H) :
    Calls P f vs.toArray w (fun e w'' => ∃ v, e = .returned v ∧ ∃ H' o', (∃ G, post v G ∧ H' = lentOut sh H ++ G) ∧ Bnd w'' o' ∧ Tr w o w'' o' ∧ Sats w'' o' H') := by
  have hop := t_callx (P := P) (V := fun _ => none) (d := none) (ty := 0) (pos := "") (af := #[]) (g := none) (fx := .const (.func (.func f) #[] #[])) (xs := (vs.map Operand.const).toArray) (Ts := #[]) (vs := vs) (cs := [])
    sh rfl hcall (by simp [VF.ev, Function.comp_def]) (by simpa using hc) hsh hok hst (fun x => match x with | .const c => c | .global g => .pointer (some ⟨g, 0, none⟩) | .func f => .func (.func f) #[] #[] | .tmp _ => undef) w o
    (fun x v hx => by cases x <;> simp [VF.ev] at hx ⊢ <;> exact hx) hbd hs
  unfold Does at hop
  rw [show (execOp _ ⟨none, .call ⟨.value (.const (.func (.func f) #[] #[])), (vs.map Operand.const).toArray, #[]⟩, 0, "", #[], none⟩).run P w = .ok (.enter f vs.toArray) w by
    simp [execOp, resolve, invoke, Deferred.ofValue, hcall, Function.comp_def]] at hop
  exact hop
section
variable {d : Option Nat} {ty : TypeId} {pos : String} {af : Array Edge} {g : Option (Nat × Bool)}
theorem y_mkIface {T : TypeId} {ds : TypeDesc} {x : Operand} {v : Value} (hu : ∀ w, (underlying T).run P w = .ok ds w) (hni : (match ds with | .interface _ => false | _ => true) = true) (hx : V.ev x = some v) :
    OpY P ⟨d, .makeInterface T x, ty, pos, af, g⟩ V H (.iface T v) := by
  intro ρ w o hf _ _
  cases ds <;> simp at hni <;> simp [execOp, Instr.makeInterface, hu, hf x _ hx]
theorem t_invoke {rx : Operand} {name : String} {T : TypeId} {rv rv' : Value} {f : FuncId} {xs : Array Operand} {Ts : Array TypeId} {vs : List Value} {Hc : List HA} {post : Post}
    (sh : List (Nat × Nat)) (hrx : V.ev rx = some (.iface T rv)) (hm : ∀ n w o, Sats w o H → (method (n + 1) T rv name).run P w = .ok (f, rv') w) (hcall : ∀ args w, (callFunc f args).run P w = .ok (.enter f args) w)
    (hxs : xs.toList.map V.ev = vs.map some) (hc : Meets P f (rv' :: vs) Hc post) (hsh : ShowsX H sh Hc) (hok : okX sh = true)
    (hst : (sh.all fun s => s.2 != 1) = true ∨ ∀ v G, post v G → ∀ g ∈ G, g.Strict) :
    OpT P ⟨d, .call ⟨.invoke rx name, xs, Ts⟩, ty, pos, af, g⟩ V H (fun v' H' => ∃ G, post v' G ∧ H' = lentOut sh H ++ G) := by
  intro ρ w o hf hbd hs
  have hargs : (xs.map ρ) = vs.toArray := by
    apply Array.ext'
    rw [Array.toList_map]
    generalize xs.toList = l at hxs
    clear hc
    induction l generalizing vs with
    | nil => cases vs <;> simp_all
    | cons x r ih =>
      cases vs with
      | nil => simp at hxs
      | cons v vs =>
        simp only [List.map_cons, List.cons.injEq] at hxs ⊢
        exact ⟨hf _ _ hxs.1, ih hxs.2⟩
  have hrun : (execOp ρ ⟨d, .call ⟨.invoke rx name, xs, Ts⟩, ty, pos, af, g⟩).run P w = .ok (.enter f (rv' :: vs).toArray) w := by
    obtain ⟨n, hn⟩ : ∃ n, P.types.size + Made.depth = n + 1 := ⟨P.types.size + (Made.depth - 1), by simp [Made.depth]⟩
    simp [execOp, resolve, invoke, hf rx _ hrx, hargs, callMethod, hn, hm n w o hs, hcall, Sem.run_bind, Result.andThen]
  unfold Does
  rw [hrun]
  exact callx_core sh hcall hc hsh hok hst hbd hs
end
/-- a method with a pointer's receiver, of the pointer's type -/
theorem method_ptr {T el : TypeId} {ti : TypeInfo} {name : String} {f : FuncId} {n : Nat} {v : Value} {m} {w : World} (hti : ∀ w, (typeInfo T).run P w = .ok ti w) (hf : ti.methods.find? (·.name == name) = some m)
    (hp : m.path = #[]) (hm : m.func = some (f, true)) (hu : ∀ w, (underlying T).run P w = .ok (.pointer el) w) : (method (n + 1) T v name).run P w = .ok (f, v) w := by
  unfold method
  simp only [Sem.run_bind, hti, Result.andThen_ok]
  rw [hf]
  simp [hp, follow, hm, receiverAt, hu, Place.get, Sem.run_bind, Result.andThen]
theorem wrapchk {ts : Array TypeId} {t : TypeId} {a : Addr} {x y : String} {w : World} : (Builtin.ssaWrapNilChk_ ts t #[.pointer (some a), strVal x, strVal y]).run P w = .ok (.pointer (some a)) w := rfl
/-- a method with the value's receiver, called at a pointer: the value is loaded -/
theorem method_val {T el : TypeId} {ti : TypeInfo} {name : String} {f : FuncId} {n : Nat} {b : Nat} {u : Value} {m} {w : World} (hti : ∀ w, (typeInfo T).run P w = .ok ti w) (hf : ti.methods.find? (·.name == name) = some m)
    (hp : m.path = #[]) (hm : m.func = some (f, false)) (hu : ∀ w, (underlying T).run P w = .ok (.pointer el) w) (hl : (loadVar el ⟨b, 0, none⟩).run P w = .ok u w) : (method (n + 1) T (boxP b 0) name).run P w = .ok (f, u) w := by
  unfold method
  simp only [Sem.run_bind, hti, Result.andThen_ok]
  rw [hf]
  simp [hp, follow, hm, receiverAt, hu, Place.get, Sem.run_bind, Result.andThen, boxP, wrapchk, asAddr, hl]
theorem load_box {T : TypeId} {r : Value} {b : Nat} {vs : List Value} {w : World} {o : Own} (m : Nat) (ha : ∀ w, (isAgg T).run P w = .ok false w) (hm : H[m]? = some (box b vs)) (hc : vs[0]? = some r) (hs : Sats w o H) :
    (loadVar T ⟨b, 0, none⟩).run P w = .ok r w := by
  obtain ⟨_, _, T', fz, e3, _⟩ := hs m _ hm
  have := cell_at e3 0
  simp [loadVar, ha, this, hc]
section
variable {d : Option Nat} {ty : TypeId} {pos : String} {af : Array Edge} {g : Option (Nat × Bool)}
/-- the dynamic type is the one asked for -/
theorem y_assert {T U : TypeId} {ds : TypeDesc} {x : Operand} {v : Value} (hu : ∀ w, (underlying T).run P w = .ok ds w) (hni : (match ds with | .interface _ => false | _ => true) = true) (hx : V.ev x = some (.iface T v)) :
    OpY P ⟨d, .typeAssert x U T false, ty, pos, af, g⟩ V H v := by
  intro ρ w o hf _ _
  cases ds <;> simp at hni <;> simp [execOp, Instr.typeAssert, hu, hf x _ hx]
theorem y_assert2 {T U : TypeId} {ds : TypeDesc} {x : Operand} {v : Value} (hu : ∀ w, (underlying T).run P w = .ok ds w) (hni : (match ds with | .interface _ => false | _ => true) = true) (hx : V.ev x = some (.iface T v)) :
    OpY P ⟨d, .typeAssert x U T true, ty, pos, af, g⟩ V H (.tuple #[v, .bool true]) := by
  intro ρ w o hf _ _
  cases ds <;> simp at hni <;> simp [execOp, Instr.typeAssert, hu, hf x _ hx]
end
end Go.Abs
