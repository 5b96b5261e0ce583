/-
  Operations that make or write memory of the call's own, and calls by contract.
-/
import Derived.Test.YtigiikkenamneaaAbsMem
namespace Go.Abs

variable {k : List KI} {V : VF} {H : List HA}

/-- block b now holds 'obj', all else is as it was -/
structure Wr (w : World) (b : Nat) (obj : Obj) (w' : World) : Prop where
  os : w'.os = w.os
  tape : w'.tape = w.tape
  output : w'.output = w.output
  size : w'.heap.size = w.heap.size
  here : w'.heap[b]? = some obj
  other : ∀ b', b' ≠ b → w'.heap[b']? = w.heap[b']?

def writeAt : Array Value → Nat → List Value → Array Value
  | arr, _, [] => arr
  | arr, n, v :: vs => writeAt (arr.setIfInBounds n v) (n + 1) vs
theorem size_writeAt : ∀ (vs : List Value) (arr : Array Value) (n : Nat), (writeAt arr n vs).size = arr.size
  | [], _, _ => rfl
  | v :: vs, arr, n => by rw [writeAt, size_writeAt vs]; simp
theorem get_writeAt : ∀ (vs : List Value) (arr : Array Value) (n m : Nat), n + vs.length ≤ arr.size →
    (writeAt arr n vs)[m]? = if n ≤ m ∧ m < n + vs.length then vs[m - n]? else arr[m]?
  | [], arr, n, m, _ => by
    have : ¬ (n ≤ m ∧ m < n + ([] : List Value).length) := by simp only [List.length_nil]; omega
    rw [if_neg this]; rfl
  | v :: vs, arr, n, m, h => by
    simp only [List.length_cons] at h
    rw [writeAt, get_writeAt vs _ _ _ (by simpa using (by omega : n + 1 + vs.length ≤ arr.size))]
    by_cases h1 : n = m
    · subst h1
      rw [if_neg (by omega), if_pos ⟨Nat.le_refl _, by simp⟩]
      simp [Array.getElem?_setIfInBounds_self]
      omega
    · rw [Array.getElem?_setIfInBounds_ne h1]
      by_cases h2 : n ≤ m ∧ m < n + (v :: vs).length
      · have h3 : n + 1 ≤ m ∧ m < n + 1 + vs.length := by simp at h2; omega
        rw [if_pos h2, if_pos h3, show m - n = (m - (n + 1)) + 1 by omega]
        simp
      · have h3 : ¬ (n + 1 ≤ m ∧ m < n + 1 + vs.length) := by simp at h2; omega
        rw [if_neg h2, if_neg h3]

theorem run_storeCells {P : Program} {b off : Nat} {T : TypeId} {fz : Nat × Nat} : ∀ (vs : List Value) (i : Nat) (arr : Array Value) (w : World), w.heap[b]? = some (.cells arr T fz) →
    (fz.2 ≤ fz.1 ∨ arr.size ≤ fz.1) → off + i + vs.length ≤ arr.size → (∀ v ∈ vs, v.oneCell' = true) →
    ∃ w', (storeCells ⟨b, off, none⟩ vs i).run P w = .ok () w' ∧ Wr w b (.cells (writeAt arr (off + i) vs) T fz) w'
  | [], i, arr, w, hb, _, _, _ => ⟨w, rfl, rfl, rfl, rfl, rfl, hb, fun _ _ => rfl⟩
  | v :: vs, i, arr, w, hb, hf, hl, hv => by
    simp only [List.length_cons] at hl
    have ha : (Addr.add ⟨b, off, none⟩ i) = ⟨b, off + i, none⟩ := by unfold Addr.add; split <;> simp_all
    have hlt : off + i < arr.size := by omega
    have hc : w.cell? ⟨b, off + i, none⟩ = some arr[off + i] := by rw [cell_at hb]; simp [hlt]
    have hz := frozen_at hb hf (off + i) hlt
    have hbs : b < w.heap.size := by
      rcases Nat.lt_or_ge b w.heap.size with h | h
      · exact h
      · rw [Array.getElem?_eq_none h] at hb; simp at hb
    have hb' : (w.setCell ⟨b, off + i, none⟩ v).heap[b]? = some (.cells (arr.setIfInBounds (off + i) v) T fz) := by
      simp [World.setCell, Array.getElem?_modify, hb]
    obtain ⟨w', h1, h2⟩ := run_storeCells (P := P) vs (i + 1) _ _ hb' (by simpa using hf) (by simpa using (by omega : off + (i + 1) + vs.length ≤ arr.size)) (fun x hx => hv x (List.mem_cons_of_mem _ hx))
    refine ⟨w', ?_, ?_⟩
    · simp only [storeCells, Sem.run_bind, ha, run_store P w _ v .plain (hv v (List.mem_cons_self ..)), hc, hz]
      simpa using h1
    · refine ⟨h2.os, h2.tape, h2.output, by rw [h2.size]; simp [World.setCell], ?_, fun b' hne => ?_⟩
      · rw [h2.here]; rfl
      · rw [h2.other b' hne]; simp [World.setCell, Array.getElem?_modify, Ne.symm hne]

/-- a new block -/
structure Nw (w : World) (obj : Obj) (w' : World) : Prop where
  os : w'.os = w.os
  tape : w'.tape = w.tape
  output : w'.output = w.output
  size : w'.heap.size = w.heap.size + 1
  here : w'.heap[w.heap.size]? = some obj
  other : ∀ b, b < w.heap.size → w'.heap[b]? = w.heap[b]?
theorem nw_push (w : World) (obj : Obj) (n : Nat) : Nw w obj { w with heap := w.heap.push obj, drawn := n } :=
  ⟨rfl, rfl, rfl, by simp, by simp, fun b hb => by simp [Array.getElem?_push, Nat.ne_of_lt hb]⟩

def addOwn (o : Own) (b m : Nat) : Own := fun x => if x = b then .mine m else o x

theorem sats_new {w w' : World} {o : Own} {obj : Obj} {g : HA} (hb : Bnd w o) (hn : Nw w obj w') (hs : Sats w o H)
    (hg : g.p w' (addOwn o w.heap.size H.length) H.length) :
    Bnd w' (addOwn o w.heap.size H.length) ∧ Tr w o w' (addOwn o w.heap.size H.length) ∧ Sats w' (addOwn o w.heap.size H.length) (H ++ [g]) := by
  have hne : ∀ b, b < w.heap.size → addOwn o w.heap.size H.length b = o b := fun b hlt => by simp [addOwn, Nat.ne_of_lt hlt]
  refine ⟨fun b hle => ?_, ⟨hn.os, hn.tape, hn.output, by rw [hn.size]; omega, fun b hlt ho => ⟨(hne b hlt).trans ho, hn.other b hlt⟩, fun b hlt ho => ⟨(hne b hlt).trans ho, hn.other b hlt⟩⟩, ?_⟩
  · rw [hn.size] at hle
    simp only [addOwn]
    rw [if_neg (by omega)]
    exact hb b (by omega)
  · intro j h hj
    rw [List.getElem?_append] at hj
    split at hj
    · exact h.keep (by rw [hn.size]; omega) (fun b hlt ho => ⟨(hne b hlt).trans ho, hn.other b hlt⟩) (fun b hlt ho => ⟨(hne b hlt).trans ho, hn.other b hlt⟩) (hs j h hj)
    · rename_i hlt
      have : j - H.length = 0 := by
        by_cases h0 : j - H.length = 0
        · exact h0
        · rw [show j - H.length = (j - H.length - 1) + 1 by omega] at hj; simp at hj
      rw [this] at hj
      simp at hj
      subst hj
      obtain rfl : j = H.length := by omega
      exact hg

theorem sats_upd {w w' : World} {o o' : Own} {m : Nat} {g : HA} (hsz : w.heap.size ≤ w'.heap.size) (ho : ∀ b, b < w.heap.size → o b ≠ .mine m → o' b = o b ∧ w'.heap[b]? = w.heap[b]?)
    (hs : Sats w o H) (hg : g.p w' o' m) : Sats w' o' (H.set m g) := by
  intro j h hj
  by_cases e : j = m
  · subst e
    rw [List.getElem?_set] at hj
    simp at hj
    obtain ⟨_, rfl⟩ := hj
    exact hg
  · rw [List.getElem?_set_ne (Ne.symm e)] at hj
    refine h.keep hsz (fun b hlt hb => ?_) (fun b hlt hb => ?_) (hs j h hj)
    · obtain ⟨e1, e2⟩ := ho b hlt (by rw [hb]; intro h'; injection h' with h'; exact e h')
      exact ⟨e1.trans hb, e2⟩
    · obtain ⟨e1, e2⟩ := ho b hlt (by rw [hb]; intro h'; cases h')
      exact ⟨e1.trans hb, e2⟩

section writes
variable {P : Program} {d : Option Nat} {ty : TypeId} {pos : String} {af : Array Edge} {g : Option (Nat × Bool)}

/-- a store into a block of the call's own -/
def wrL (vs : List Value) (off : Nat) (xs : List Value) : List Value := (writeAt vs.toArray off xs).toList
theorem t_store {T : TypeId} {x y : Operand} {b off n : Nat} {vs : List Value} {v : Value} (m : Nat) (hz : ∀ w, (sizeOf T).run P w = .ok n w) (hx : V.ev x = some (boxP b off)) (hy : V.ev y = some v)
    (hm : H[m]? = some (box b vs)) (hn : v.cells.size = n) (hl : off + n ≤ vs.length) (h1 : ∀ u ∈ v.cells.toList, u.oneCell' = true) :
    OpT P ⟨d, .store T x y, ty, pos, af, g⟩ V H (fun v' H' => v' = undef ∧ H' = H.set m (box b (wrL vs off v.cells.toList))) := by
  intro ρ w o hf hbd hs
  obtain ⟨e1, e2, T', fz, e3, e4⟩ := hs m _ hm
  obtain ⟨w', h2, h3⟩ := run_storeCells (P := P) v.cells.toList 0 vs.toArray w e3 (.inl e4) (off := off) (by simp; omega) h1
  have hrun : (execOp ρ ⟨d, .store T x y, ty, pos, af, g⟩).run P w = .ok .skip w' := by
    simp [execOp, hf x _ hx, hf y _ hy, Instr.storeAt, Instr.sureAddr, boxP, storeVar, hz, hn, h2]
  unfold Does
  rw [hrun]
  refine ⟨_, o, ⟨rfl, rfl⟩, fun b' hb' => hbd b' (by rw [h3.size] at hb'; exact hb'), ⟨h3.os, h3.tape, h3.output, by rw [h3.size]; exact Nat.le_refl _, fun b' hlt hb' => ⟨hb', h3.other b' ?_⟩, fun b' hlt hb' => ⟨hb', h3.other b' ?_⟩⟩, ?_⟩
  · rintro rfl; rw [e1] at hb'; cases hb'
  · rintro rfl; rw [e1] at hb'; cases hb'
  · refine sats_upd (by rw [h3.size]; exact Nat.le_refl _) (fun b' hlt hb' => ⟨rfl, h3.other b' ?_⟩) hs ⟨e1, by rw [h3.size]; exact e2, T', fz, ?_, e4⟩
    · rintro rfl; exact hb' e1
    · rw [h3.here]; simp [wrL]

/-- a new variable, zero -/
theorem t_alloc {T : TypeId} {z : Value} (hz : ∀ w, (zeroValue T).run P w = .ok z w) :
    OpT P ⟨d, .alloc T, ty, pos, af, g⟩ V H (fun v' H' => ∃ b, v' = boxP b 0 ∧ H' = H ++ [box b z.cells.toList]) := by
  intro ρ w o hf hbd hs
  have hn := nw_push w (.cells z.cells T) w.drawn
  have hrun : (execOp ρ ⟨d, .alloc T, ty, pos, af, g⟩).run P w = .ok (.value (boxP w.heap.size 0)) { w with heap := w.heap.push (.cells z.cells T) } := by
    simp [execOp, Instr.alloc, hz, newVar, newRow, boxP]
  unfold Does
  rw [hrun]
  obtain ⟨h1, h2, h3⟩ := sats_new (g := box w.heap.size z.cells.toList) hbd hn hs ⟨by simp [addOwn], by rw [hn.size]; omega, T, (0, 0), by rw [hn.here], by simp⟩
  exact ⟨_, _, ⟨w.heap.size, rfl, rfl⟩, h1, h2, h3⟩
theorem t_box {T : TypeId} {x : Operand} {v : Value} (hx : V.ev x = some v) :
    OpT P ⟨d, .box T x, ty, pos, af, g⟩ V H (fun v' H' => ∃ b, v' = boxP b 0 ∧ H' = H ++ [box b v.cells.toList]) := by
  intro ρ w o hf hbd hs
  have hn := nw_push w (.cells v.cells T) w.drawn
  have hrun : (execOp ρ ⟨d, .box T x, ty, pos, af, g⟩).run P w = .ok (.value (boxP w.heap.size 0)) { w with heap := w.heap.push (.cells v.cells T) } := by
    simp [execOp, Instr.box, hf x _ hx, newVar, newRow, boxP]
  unfold Does
  rw [hrun]
  obtain ⟨h1, h2, h3⟩ := sats_new (g := box w.heap.size v.cells.toList) hbd hn hs ⟨by simp [addOwn], by rw [hn.size]; omega, T, (0, 0), by rw [hn.here], by simp⟩
  exact ⟨_, _, ⟨w.heap.size, rfl, rfl⟩, h1, h2, h3⟩

theorem flat_get {es : Nat} : ∀ (cells : List (List Value)), (∀ c ∈ cells, c.length = es) → ∀ (j : Nat) (x : Value), cells.flatten[j]? = some x →
    ∃ (i j' : Nat) (c : List Value), cells[i]? = some c ∧ c[j']? = some x ∧ j = i * es + j'
  | [], _, j, x, h => by simp at h
  | c :: r, hl, j, x, h => by
    have hc := hl c (List.mem_cons_self ..)
    rw [List.flatten_cons, List.getElem?_append] at h
    split at h
    · exact ⟨0, j, c, rfl, h, by omega⟩
    · obtain ⟨i, j', c', h1, h2, h3⟩ := flat_get r (fun y hy => hl y (List.mem_cons_of_mem _ hy)) _ _ h
      refine ⟨i + 1, j', c', by simpa using h1, h2, ?_⟩
      rw [Nat.succ_mul]; omega
theorem flat_len {es : Nat} : ∀ (cells : List (List Value)), (∀ c ∈ cells, c.length = es) → cells.flatten.length = cells.length * es
  | [], _ => by simp
  | c :: r, hl => by
    rw [List.flatten_cons, List.length_append, flat_len r (fun y hy => hl y (List.mem_cons_of_mem _ hy)), hl c (List.mem_cons_self ..), List.length_cons, Nat.succ_mul]; omega
theorem flat_at {es : Nat} : ∀ (cells : List (List Value)), (∀ c ∈ cells, c.length = es) → ∀ (i j : Nat) (c : List Value) (x : Value), cells[i]? = some c → c[j]? = some x → cells.flatten[i * es + j]? = some x
  | [], _, i, j, c, x, h, _ => by simp at h
  | c0 :: r, hl, 0, j, c, x, h, hx => by
    simp at h; subst h
    rw [List.flatten_cons, List.getElem?_append, if_pos (by have := (List.getElem?_eq_some_iff.1 hx).1; omega)]
    simpa using hx
  | c0 :: r, hl, i + 1, j, c, x, h, hx => by
    have hc := hl c0 (List.mem_cons_self ..)
    rw [List.flatten_cons, List.getElem?_append, if_neg (by rw [Nat.succ_mul]; omega)]
    have := flat_at r (fun y hy => hl y (List.mem_cons_of_mem _ hy)) i j c x (by simpa using h) hx
    rw [← this]; congr 1; rw [Nat.succ_mul]; omega

/-- the parts of a literal slice, in order -/
def zipFrom : Nat → List Value → List (Nat × Value)
  | _, [] => []
  | i, v :: vs => (i, v) :: zipFrom (i + 1) vs

theorem writeAt_append : ∀ (xs ys : List Value) (arr : Array Value) (n : Nat), writeAt (writeAt arr n xs) (n + xs.length) ys = writeAt arr n (xs ++ ys)
  | [], _, _, _ => rfl
  | x :: xs, ys, arr, n => by
    simp only [List.cons_append, writeAt, List.length_cons]
    rw [← writeAt_append xs ys, show n + 1 + xs.length = n + (xs.length + 1) by omega]
theorem foldl_write (off : Nat) : ∀ (l : List Value) (i : Nat) (arr : Array Value), (l.zipIdx i).foldl (fun cs (c, j) => cs.setIfInBounds (off + j) c) arr = writeAt arr (off + i) l
  | [], _, _ => rfl
  | c :: l, i, arr => by
    simp only [List.zipIdx_cons, List.foldl_cons, writeAt]
    rw [foldl_write off l (i + 1)]; rfl
theorem fill_lit {es : Nat} : ∀ (vs : List Value) (i : Nat) (arr : Array Value), arr.size = (i + vs.length) * es → (∀ v ∈ vs, v.cells.size = es) →
    Instr.fill (fun i => some (i * es, es)) arr (zipFrom i vs) = some (writeAt arr (i * es) (vs.flatMap fun v => v.cells.toList))
  | [], i, arr, _, _ => rfl
  | v :: vs, i, arr, h, hv => by
    have h0 := hv v (List.mem_cons_self ..)
    simp only [List.length_cons] at h
    have hle : i * es + es ≤ arr.size := by rw [h, ← Nat.succ_mul]; exact Nat.mul_le_mul_right _ (by omega)
    simp only [zipFrom, Instr.fill, h0]
    rw [if_neg (by simp; omega)]
    have hfold : v.cells.zipIdx.foldl (fun cs (x : Value × Nat) => cs.setIfInBounds (i * es + x.2) x.1) arr = writeAt arr (i * es) v.cells.toList := by
      rw [← Array.foldl_toList, Array.toList_zipIdx]
      exact foldl_write (i * es) v.cells.toList 0 arr
    rw [hfold, fill_lit vs (i + 1) _ (by rw [size_writeAt, h]; congr 1; omega) (fun x hx => hv x (List.mem_cons_of_mem _ hx))]
    rw [List.flatMap_cons, ← writeAt_append, Array.length_toList, h0, Nat.succ_mul]

/-- a literal slice -/
theorem t_lit {T el : TypeId} {n es : Nat} {parts : Array (Nat × Operand)} {z : Value} (vs : List Value) (hu : ∀ w, (underlying T).run P w = .ok (.slice el) w)
    (hz : ∀ w, (sizeOf el).run P w = .ok es w) (h0 : ∀ w, (zeroValue el).run P w = .ok z w) (hp : parts.toList.map (fun p => (p.1, V.ev p.2)) = (zipFrom 0 vs).map (fun p => (p.1, some p.2)))
    (hsz : n * es ≤ 2 ^ 24) (hn24 : n ≤ 2 ^ 24) (hn : vs.length = n) (hv : ∀ v ∈ vs, v.cells.size = es) :
    OpT P ⟨d, .buildSlice T n parts, ty, pos, af, g⟩ V H (fun v' H' => H' = H ++ [row v' es (vs.map fun v => v.cells.toList)] ∧ v' ≠ .slice none 0 0) := by
  intro ρ w o hf hbd hs
  obtain ⟨cells, hcells⟩ : ∃ cells, cells = vs.map fun v => v.cells.toList := ⟨_, rfl⟩
  have hc : ∀ c ∈ cells, c.length = es := by
    intro c hc
    rw [hcells] at hc
    obtain ⟨v, hvm, rfl⟩ := List.mem_map.1 hc
    rw [Array.length_toList]; exact hv v hvm
  have hcl : cells.length = n := by rw [hcells, List.length_map, hn]
  have hfill : Instr.fill (fun i => some (i * es, es)) ((Array.range (n * es)).map (z.cells[· % z.cells.size]!)) (zipFrom 0 vs) = some cells.flatten.toArray := by
    have hfl := flat_len cells hc
    have hfm : (vs.flatMap fun v => v.cells.toList) = cells.flatten := by rw [hcells]; simp [List.flatMap]
    rw [fill_lit vs 0 _ (by simp [hn]) hv, hfm]
    congr 1
    apply Array.ext_getElem?
    intro m
    rw [Nat.zero_mul, get_writeAt _ _ _ _ (by simp [hfl, hcl])]
    by_cases hm : m < cells.flatten.length
    · rw [if_pos ⟨Nat.zero_le _, by omega⟩]; simp
    · rw [if_neg (by omega), Array.getElem?_eq_none (by simp; rw [hfl, hcl] at hm; omega), Array.getElem?_eq_none (by simp at hm ⊢; omega)]
  rw [← hcells]
  have hn' := nw_push w (.cells cells.flatten.toArray el) w.drawn
  have hpv : parts.toList.map (fun x => (x.fst, ρ x.snd)) = zipFrom 0 vs := by
    generalize parts.toList = l at hp
    generalize zipFrom 0 vs = pv at hp
    induction l generalizing pv with
    | nil => cases pv <;> simp_all
    | cons p r ih =>
      cases pv with
      | nil => simp at hp
      | cons q pv =>
        simp only [List.map_cons, List.cons.injEq, Prod.mk.injEq] at hp ⊢
        obtain ⟨⟨h1, h2⟩, h3⟩ := hp
        exact ⟨by rw [h1, hf _ _ h2], ih _ h3⟩
  have hrun : (execOp ρ ⟨d, .buildSlice T n parts, ty, pos, af, g⟩).run P w = .ok (.value (.slice (some ⟨w.heap.size, 0, none⟩) n n)) { w with heap := w.heap.push (.cells cells.flatten.toArray el) } := by
    by_cases hne : n * es = 0
    · rw [hne] at hfill
      simp [execOp, Instr.buildSlice, hu, hz, hne, hpv]
      have e0 : Array.map (fun _ => (default : Value)) (Array.range 0) = (Array.range 0).map (z.cells[· % z.cells.size]!) := by apply Array.ext <;> simp
      rw [e0, hfill]
      simp [newRow]
    · simp [execOp, Instr.buildSlice, hu, hz, h0, Nat.not_lt.2 hsz, hne, hpv]
      simp [hfill, newRow]
  unfold Does
  rw [hrun]
  have hrow : RowIs { w with heap := w.heap.push (.cells cells.flatten.toArray el) } (fun b => addOwn o w.heap.size H.length b = .mine H.length) (.slice (some ⟨w.heap.size, 0, none⟩) n n) es cells := by
    refine .inr ⟨w.heap.size, 0, n, cells.flatten.toArray, el, (0, 0), by rw [hcl], by simp [addOwn], by simp, by simp, .inl (Nat.le_refl _), by simp [flat_len cells hc, hcl], by omega, ?_, hc, ?_⟩
    · unfold maxLen; omega
    · intro i c hi j x hj
      rw [Nat.zero_add]
      simpa using flat_at cells hc i j c x hi hj
  obtain ⟨h1, h2, h3⟩ := sats_new (g := row (.slice (some ⟨w.heap.size, 0, none⟩) n n) es cells) hbd hn' hs hrow
  exact ⟨_, _, ⟨rfl, by simp⟩, h1, h2, h3⟩
end writes
end Go.Abs
