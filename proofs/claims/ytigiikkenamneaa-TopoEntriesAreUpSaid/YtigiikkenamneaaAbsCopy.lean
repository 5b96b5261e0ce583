/-
  copy into a slice of the call's own, or into a part of it.
-/
import Derived.Test.YtigiikkenamneaaAbsNest
namespace Go.Abs
set_option linter.unusedSimpArgs false
set_option linter.unusedVariables false
variable {E : Env} {k : List KI} {V : VF} {H : List HA}
def SrcP (P : Program) (H : List HA) (v : Value) (es : Nat) (new : List (List Value)) : Prop :=
  (∀ c ∈ new, c.length = es ∧ ∀ u ∈ c, u.oneCell' = true) ∧
  ∀ w o, Sats w o H → (Builtin.lenOf v).run P w = .ok new.length w ∧ ∀ q, q ≤ new.length → (Builtin.firstCells es q v).run P w = .ok (new.take q).flatten.toArray w
theorem run_firstCellsK {P : Program} {w : World} {B : Nat → Prop} {v : Value} {es : Nat} {cells : List (List Value)} (h : SliceIs w B v es cells) :
    (Builtin.lenOf v).run P w = .ok cells.length w ∧ ∀ q, q ≤ cells.length → (Builtin.firstCells es q v).run P w = .ok (cells.take q).flatten.toArray w := by
  refine ⟨(run_firstCells h).1, fun q hq => ?_⟩
  obtain ⟨a, cap, e1, e2, e3, e4, e5⟩ := id h
  have hl : (cells.take q).length = q := by rw [List.length_take]; omega
  have h' : SliceIs w B (.slice a (cells.take q).length cap) es (cells.take q) := ⟨a, cap, rfl, by omega, e3, e4, fun i c hi => e5 i c (by
    rw [List.getElem?_take] at hi
    split at hi
    · exact hi
    · cases hi)⟩
  have := (run_firstCells (P := P) h').2
  rw [hl] at this
  rw [e1]
  cases a <;> simpa [Builtin.firstCells] using this
theorem srcp_reads {P : Program} {v : Value} {es : Nat} {new : List (List Value)} {h : HA} (m : Nat) (hm : H[m]? = some h) (hr : Reads h v es new)
    (hc : ∀ c ∈ new, c.length = es ∧ ∀ u ∈ c, u.oneCell' = true) : SrcP P H v es new := ⟨hc, fun w o hs => run_firstCellsK (hr.is w o m (hs m h hm))⟩
theorem srcp_sub {P : Program} {v : Value} {es l r : Nat} {cells : List (List Value)} {h : HA} (m : Nat) (hm : H[m]? = some h) (hr : Reads h v es cells) (h1 : l ≤ r) (h2 : r ≤ cells.length)
    (hc : ∀ c ∈ cells, c.length = es ∧ ∀ u ∈ c, u.oneCell' = true) : SrcP P H (subS v es l r) es ((cells.take r).drop l) :=
  ⟨fun c hc' => hc c (List.mem_of_mem_take (List.mem_of_mem_drop hc')), fun w o hs => by
    have h3 := hr.is w o m (hs m h hm)
    obtain ⟨a, cap, e1, e2, e3, e4, e5⟩ := id h3
    subst e1
    exact run_firstCellsK (SliceIs.sub h3 h1 h2 (by omega) (Nat.le_refl _))⟩
theorem srcp_nil {P : Program} {es : Nat} : SrcP P H (.slice none 0 0) es [] :=
  ⟨fun c hc => by simp at hc, fun w o _ => ⟨by simp [Builtin.lenOf], fun q _ => by simp [Builtin.firstCells]⟩⟩
def cpy {α : Type} (l : List α) (a b : Nat) (new : List α) : List α := l.take a ++ (new.take (b - a) ++ l.drop (a + min new.length (b - a)))
theorem cpy_map {α : Type} {F : α → List Value} (l : List α) (a b : Nat) (new : List α) : cpy (l.map F) a b (new.map F) = (cpy l a b new).map F := by simp [cpy, List.map_take, List.map_drop]
def PartOf (v : Value) (es n : Nat) (vd : Value) (a b : Nat) : Prop := vd = subS v es a b ∨ (vd = v ∧ a = 0 ∧ b = n)
theorem part_sub {v : Value} {es n a b : Nat} : PartOf v es n (subS v es a b) a b := .inl rfl
theorem part_all {v : Value} {es n : Nat} : PartOf v es n v 0 n := .inr ⟨rfl, rfl, rfl⟩
section
variable {P : Program} {d : Option Nat} {ty : TypeId} {pos : String} {af : Array Edge} {g : Option (Nat × Bool)}
theorem flat_take {es : Nat} {new : List (List Value)} (hn : ∀ c ∈ new, c.length = es) (q : Nat) (hq : q ≤ new.length) : (new.take q).flatten.length = q * es := by
  rw [flat_len (new.take q) (fun c hc => hn c (List.mem_of_mem_take hc)), List.length_take, Nat.min_eq_left hq]
theorem t_copy {Ts : Array TypeId} {T el : TypeId} {es a b : Nat} {x y : Operand} {v vd vy : Value} {cells new : List (List Value)} (m : Nat)
    (hT : Ts[0]? = some T) (hu : ∀ w, (underlying T).run P w = .ok (.slice el) w) (hsz : ∀ w, (sizeOf el).run P w = .ok es w)
    (hx : V.ev x = some vd) (hd : PartOf v es cells.length vd a b) (ha : a ≤ b) (hb : b ≤ cells.length) (hm : H[m]? = some (row v es cells)) (hy : V.ev y = some vy) (hsrc : SrcP P H vy es new) :
    OpT P ⟨d, .call ⟨.builtin .copy, #[x, y], Ts⟩, ty, pos, af, g⟩ V H (fun v' H' => v' = .int .i64 (min new.length (b - a) : Nat) ∧ H' = H.set m (row v es (cpy cells a b new))) := by
  intro ρ w o hf hbd hs
  obtain ⟨hnew, hsrc⟩ := hsrc
  obtain ⟨hn1, hn2⟩ := hsrc w o hs
  obtain ⟨q, hq⟩ : ∃ q, q = min new.length (b - a) := ⟨_, rfl⟩
  have hq1 : q ≤ new.length := by omega
  have hn3 := hn2 q hq1
  have hnu : ∀ c ∈ new, c.length = es := fun c hc => (hnew c hc).1
  have htk : new.take (b - a) = new.take q := by
    rw [hq]; by_cases h : new.length ≤ b - a
    · rw [Nat.min_eq_left h, List.take_of_length_le h, List.take_length]
    · rw [Nat.min_eq_right (by omega)]
  have hcp : cpy cells a b new = cells.take a ++ (new.take q ++ cells.drop (a + q)) := by rw [cpy, htk, ← hq]
  rw [← hq, hcp]
  have hone : ∀ u ∈ (new.take q).flatten, u.oneCell' = true := fun u hu => by
    obtain ⟨c, hc, hu⟩ := List.mem_flatten.1 hu
    exact (hnew c (List.mem_of_mem_take hc)).2 u hu
  -- what dst is
  obtain ⟨base, cap', hvd, hbase⟩ : ∃ base cap', vd = .slice base (b - a) cap' ∧ (0 < b - a → ∀ b0 off cap, v = .slice (some ⟨b0, off, none⟩) cells.length cap → cells.length ≤ cap → base = some ⟨b0, off + a * es, none⟩) := by
    have hsl : ∃ a0 cap, v = .slice a0 cells.length cap := by
      rcases hs m _ hm with ⟨⟨a', r1⟩, r2⟩ | ⟨b0, off, cap, arr, T', fz, r1, _⟩
      · exact ⟨a', 0, by rw [r1, r2]; rfl⟩
      · exact ⟨_, cap, r1⟩
    obtain ⟨a0, cap, hv⟩ := hsl
    rcases hd with rfl | ⟨rfl, rfl, rfl⟩
    · rw [hv]
      refine ⟨_, _, rfl, fun h0 b0 off cap1 hv1 hc1 => ?_⟩
      simp only [Value.slice.injEq] at hv1
      obtain ⟨rfl, _, rfl⟩ := hv1
      rw [if_neg (by omega)]
      have hadd : (Addr.add ⟨b0, off, none⟩ (a * es)) = ⟨b0, off + a * es, none⟩ := by unfold Addr.add; split <;> simp_all
      simp [hadd]
    · rw [hv]
      refine ⟨a0, cap, by simp, fun h0 b0 off cap1 hv1 hc1 => ?_⟩
      simp only [Value.slice.injEq] at hv1
      rw [hv1.1]; simp
  have hrest : ∀ w', (match base with | some ad => storeCells ad (new.take q).flatten | none => pure ()).run P w = .ok () w' → (execOp ρ ⟨d, .call ⟨.builtin .copy, #[x, y], Ts⟩, ty, pos, af, g⟩).run P w = .ok (.value (.int .i64 (q : Nat))) w' := by
    intro w' hw'
    rw [hvd] at hx
    have hmin : Nat.min new.length (b - a) = q := by rw [hq]
    cases base with
    | none =>
      simp at hw'
      subst hw'
      simp [execOp, resolve, invoke, builtin, hf x _ hx, hf y _ hy, Builtin.copy_, hT, hu, hsz, hn1, hmin, hn3, goInt]
    | some ad =>
      simp only at hw'
      simp [execOp, resolve, invoke, builtin, hf x _ hx, hf y _ hy, Builtin.copy_, hT, hu, hsz, hn1, hmin, hn3, goInt, hw']
  by_cases h0 : q = 0
  · -- nothing goes over
    have hr := hrest w (by rw [h0]; cases base <;> simp [storeCells_nil])
    unfold Does
    rw [hr]
    refine ⟨_, o, ⟨by simp, rfl⟩, hbd, Tr.refl w o, sats_upd (Nat.le_refl _) (fun _ _ _ => ⟨rfl, rfl⟩) hs ?_⟩
    have : cells.take a ++ (new.take q ++ cells.drop (a + q)) = cells := by rw [h0]; simp
    rw [this]
    exact hs m _ hm
  · rcases hs m _ hm with ⟨_, r2⟩ | ⟨b0, off, cap, arr, T', fz, r1, r2, r3, r4, r5, r6, r7, r8, r9, r10⟩
    · rw [r2] at hb; simp at hb; omega
    obtain rfl := hbase (by omega) b0 off cap r1 r7
    have hfl := flat_take hnu q hq1
    have hroom : off + a * es + (new.take q).flatten.length ≤ arr.size := by
      rw [hfl, r6, Nat.add_assoc, ← Nat.add_mul]
      exact Nat.add_le_add_left (Nat.mul_le_mul_right _ (by omega)) _
    obtain ⟨w', h2, h3⟩ := run_storeCells (P := P) (new.take q).flatten 0 arr w r4 r5 (off := off + a * es) (by simpa using hroom) hone
    have hr := hrest w' h2
    unfold Does
    rw [hr]
    refine ⟨_, o, ⟨rfl, rfl⟩, fun b' hb' => hbd b' (by rw [h3.size] at hb'; exact hb'), ⟨h3.os, h3.tape, h3.output, by rw [h3.size]; exact Nat.le_refl _, fun b' hlt hb' => ⟨hb', h3.other b' ?_⟩, fun b' hlt hb' => ⟨hb', h3.other b' ?_⟩⟩, ?_⟩
    · rintro rfl; rw [r2] at hb'; cases hb'
    · rintro rfl; rw [r2] at hb'; cases hb'
    · have hlen : (cells.take a ++ (new.take q ++ cells.drop (a + q))).length = cells.length := by simp; omega
      refine sats_upd (by rw [h3.size]; exact Nat.le_refl _) (fun b' hlt hb' => ⟨rfl, h3.other b' ?_⟩) hs (.inr ⟨b0, off, cap, _, T', fz, by rw [hlen]; exact r1, r2, by rw [h3.size]; exact r3, h3.here, by rw [size_writeAt]; exact r5, by rw [size_writeAt]; exact r6,
        by rw [hlen]; exact r7, r8, ?_, ?_⟩)
      · rintro rfl; exact hb' r2
      · intro c hc
        rcases List.mem_append.1 hc with hc | hc
        · exact r9 c (List.mem_of_mem_take hc)
        · rcases List.mem_append.1 hc with hc | hc
          · exact hnu c (List.mem_of_mem_take hc)
          · exact r9 c (List.mem_of_mem_drop hc)
      · intro i c hi j x' hj
        rw [Nat.add_zero, get_writeAt _ _ _ _ hroom, hfl]
        have hcl : c.length = es := by
          have hc := List.mem_of_getElem? hi
          rcases List.mem_append.1 hc with hc | hc
          · exact r9 c (List.mem_of_mem_take hc)
          · rcases List.mem_append.1 hc with hc | hc
            · exact hnu c (List.mem_of_mem_take hc)
            · exact r9 c (List.mem_of_mem_drop hc)
        have hjl : j < es := by have := (List.getElem?_eq_some_iff.1 hj).1; omega
        have hml : ∀ p r : Nat, p + 1 ≤ r → p * es + es ≤ r * es := fun p r h => by rw [← Nat.succ_mul]; exact Nat.mul_le_mul_right _ h
        have haq : (a + q) * es = a * es + q * es := Nat.add_mul _ _ _
        by_cases c1 : i < a
        · rw [List.getElem?_append_left (by simp; omega), List.getElem?_take, if_pos c1] at hi
          have := hml i a c1
          rw [if_neg (by omega)]
          exact r10 i c hi j x' hj
        · rw [List.getElem?_append_right (by simp; omega)] at hi
          have e1 : (cells.take a).length = a := by simp; omega
          rw [e1] at hi
          by_cases c2 : i - a < q
          · rw [List.getElem?_append_left (by simp; omega)] at hi
            have h1 := hml i (a + q) (by omega)
            have h2' : a * es ≤ i * es := Nat.mul_le_mul_right _ (by omega)
            rw [if_pos (by omega)]
            have := flat_at (new.take q) (fun c hc => hnu c (List.mem_of_mem_take hc)) (i - a) j c x' hi hj
            rw [← this]
            congr 1
            rw [Nat.sub_mul]; omega
          · rw [List.getElem?_append_right (by simp; omega)] at hi
            have e2 : (new.take q).length = q := by simp; omega
            rw [e2, List.getElem?_drop, show a + q + (i - a - q) = i by omega] at hi
            have h1 : (a + q) * es ≤ i * es := Nat.mul_le_mul_right _ (by omega)
            rw [if_neg (by omega)]
            exact r10 i c hi j x' hj
/-- told in plain lists -/
theorem t_copyL {α : Type} {F : α → List Value} {l ns : List α} {Ts : Array TypeId} {T el : TypeId} {es a b b2 : Nat} {x y : Operand} {v vd vy : Value} {new : List (List Value)} (m : Nat)
    (hT : Ts[0]? = some T) (hu : ∀ w, (underlying T).run P w = .ok (.slice el) w) (hsz : ∀ w, (sizeOf el).run P w = .ok es w)
    (hx : V.ev x = some vd) (hd : PartOf v es (l.map F).length vd a b) (ha : a ≤ b) (hb : b ≤ l.length) (hm : H[m]? = some (row v es (l.map F))) (hy : V.ev y = some vy) (hsrc : SrcP P H vy es new) (hn : new = ns.map F) (hb2 : b = b2) :
    OpT P ⟨d, .call ⟨.builtin .copy, #[x, y], Ts⟩, ty, pos, af, g⟩ V H (fun v' H' => v' = .int .i64 (min ns.length (b2 - a) : Nat) ∧ H' = H.set m (row v es ((cpy l a b2 ns).map F))) := by
  subst hb2
  have h := t_copy (d := d) (ty := ty) (pos := pos) (af := af) (g := g) m hT hu hsz hx hd ha (by simpa using hb) hm hy hsrc
  subst hn
  rw [cpy_map, List.length_map] at h
  exact h
end
theorem cpy_len {α : Type} (l : List α) (a b : Nat) (new : List α) (ha : a ≤ b) (hb : b ≤ l.length) : (cpy l a b new).length = l.length := by simp [cpy]; omega
end Go.Abs
