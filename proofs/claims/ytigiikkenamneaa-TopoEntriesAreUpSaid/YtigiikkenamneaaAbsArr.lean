/-
  Arrays in variables of the call's own: an element by its index.
-/
import Derived.Test.YtigiikkenamneaaAbsMore
namespace Go.Abs
open Go.Sem
variable {P : Program} {V : VF} {H : List HA} {d : Option Nat} {ty : TypeId} {pos : String} {af : Array Edge} {g : Option (Nat × Bool)}

theorem y_indexAddr_box {T el : TypeId} {x y : Operand} {kd : IntKind} {b off n len es : Nat} (hu : ∀ w, (underlying T).run P w = .ok (.array len el) w)
    (hz : ∀ w, (sizeOf el).run P w = .ok es w) (hx : V.ev x = some (boxP b off)) (hy : V.ev y = some (.int kd n)) (hn : n < len) :
    OpY P ⟨d, .indexAddr T x y, ty, pos, af, g⟩ V H (boxP b (off + n * es)) := by
  intro ρ w o hf _ hs
  have ha : (Addr.add ⟨b, off, none⟩ (n * es)) = ⟨b, off + n * es, none⟩ := by
    unfold Addr.add; split
    · rename_i h0; rw [h0]; rfl
    · rfl
  simp [execOp, hf x _ hx, hf y _ hy, Instr.indexAt, asIntOf, hu, hz, boxP, Instr.sureAddr, ha, hn]
theorem wrL_arr8 (l : List UInt8) (j : Nat) (c : UInt8) : wrL (arr8 l) j [.int .u8 c.toNat] = arr8 (l.set j c) := by
  simp [wrL, writeAt, arr8, List.map_set]
theorem t_store8 {T : TypeId} {x y : Operand} {b j : Nat} {l : List UInt8} {c : UInt8} (m : Nat) (hz : ∀ w, (sizeOf T).run P w = .ok 1 w) (hx : V.ev x = some (boxP b j)) (hy : V.ev y = some (.int .u8 c.toNat))
    (hm : H[m]? = some (box b (arr8 l))) (hl : j < l.length) :
    OpT P ⟨d, .store T x y, ty, pos, af, g⟩ V H (fun v' H' => v' = undef ∧ H' = H.set m (box b (arr8 (l.set j c)))) := by
  rw [← wrL_arr8]
  exact t_store (d := d) (ty := ty) (pos := pos) (af := af) (g := g) m hz hx hy hm (by simp [Value.cells]) (by rw [arr8_len]; omega) (by simp [Value.cells, Value.oneCell'])
theorem arr8_get {l : List UInt8} {j : Nat} (h : j < l.length) : (arr8 l)[j]? = some (.int .u8 (l[j]).toNat) := by simp [arr8, h]
/-- a row filled from the left -/
theorem fill_set {b : List UInt8} {at_ j n : Nat} (h : j < n) (hb : at_ + n ≤ b.length) : (((b.drop at_).take j ++ List.replicate (n - j) (0 : UInt8)).set j (b[at_ + j]'(by omega))) = (b.drop at_).take (j + 1) ++ List.replicate (n - (j + 1)) 0 := by
  have hl : ((b.drop at_).take j).length = j := by rw [List.length_take, List.length_drop]; omega
  rw [List.set_append_right _ _ (by omega), hl, Nat.sub_self, show n - j = (n - (j + 1)) + 1 by omega, List.replicate_succ, List.set_cons_zero]
  rw [List.take_succ_eq_append_getElem (show j < (b.drop at_).length by rw [List.length_drop]; omega), List.append_assoc]
  simp
/-- what the parts of a literal are -/
theorem parts_eq {ρ : Operand → Value} (hf : ∀ x v, V.ev x = some v → ρ x = v) : ∀ (l : List (Nat × Operand)) (vs : List (Nat × Value)), l.map (fun p => (p.1, V.ev p.2)) = vs.map (fun p => (p.1, some p.2)) → l.map (fun x => (x.fst, ρ x.snd)) = vs
  | [], [], _ => rfl
  | [], q :: vs, h => by simp at h
  | p :: l, [], h => by simp at h
  | p :: l, q :: vs, h => by
    simp only [List.map_cons, List.cons.injEq, Prod.mk.injEq] at h ⊢
    obtain ⟨⟨h1, h2⟩, h3⟩ := h
    exact ⟨by rw [h1, hf _ _ h2], parts_eq hf l vs h3⟩
/-- an array by its parts -/
theorem y_build_arr {T el : TypeId} {n es : Nat} {parts : Array (Nat × Operand)} {z : Value} {cells : Array Value} (vs : List (Nat × Value)) (h0 : ∀ w, (zeroValue T).run P w = .ok z w) (hu : ∀ w, (underlying T).run P w = .ok (.array n el) w)
    (hz : ∀ w, (sizeOf el).run P w = .ok es w) (hp : parts.toList.map (fun p => (p.1, V.ev p.2)) = vs.map (fun p => (p.1, some p.2))) (hc : Instr.fill (fun i => some (i * es, es)) z.cells vs = some cells) :
    OpY P ⟨d, .build T parts, ty, pos, af, g⟩ V H (.agg cells) := by
  intro ρ w o hf _ hs
  have hpv := parts_eq (V := V) (ρ := ρ) (fun x v h => hf x v h) _ _ hp
  simp [execOp, Instr.build, hu, hz, h0, hpv, hc]
/-- forget what is not read any more -/
theorem ops_weak {E : Env} {k : List KI} {ops : Array Oper} {r : List Oper} (l : List (Nat × Value)) (is : List Nat) (G : List HA) (hl : ∀ x ∈ l, V x.1 = some x.2) (hn : is.Nodup) (hG : Picks is H G)
    (h : Ops E ops r k (VF.of l) G) : Ops E ops r k V H := fun a w r => h a w ((r.vle (VF.le_of l hl)).pick hn hG)
end Go.Abs
