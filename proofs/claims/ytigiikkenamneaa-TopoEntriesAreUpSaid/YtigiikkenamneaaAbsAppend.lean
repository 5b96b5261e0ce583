/-
  append onto a slice of the call's own; slices of slices; calls by contract.
-/
import Derived.Test.YtigiikkenamneaaAbsWrite
namespace Go.Abs

variable {k : List KI} {V : VF} {H : List HA}

theorem SliceIs.uni {w : World} {B : Nat → Prop} {v : Value} {es : Nat} {cells : List (List Value)} (h : SliceIs w B v es cells) : ∀ c ∈ cells, c.length = es := by
  intro c hc
  obtain ⟨i, hi⟩ := List.getElem?_of_mem hc
  exact (h.elem hi).1

theorem run_firstCells {P : Program} {w : World} {B : Nat → Prop} {v : Value} {es : Nat} {cells : List (List Value)} (h : SliceIs w B v es cells) :
    (Builtin.lenOf v).run P w = .ok cells.length w ∧ (Builtin.firstCells es cells.length v).run P w = .ok cells.flatten.toArray w := by
  have hu := h.uni
  have hl := flat_len cells hu
  cases hc : cells with
  | nil =>
    subst hc
    obtain ⟨a, cap, e1, _⟩ := h
    subst e1
    refine ⟨by simp [Builtin.lenOf], ?_⟩
    cases a <;> simp [Builtin.firstCells, loadCells, loadCellsFrom]
  | cons c0 r =>
    rw [← hc]
    obtain ⟨_, b, off, cap, e1, _⟩ := h.elem (i := 0) (c := c0) (by simp [hc])
    have hload : ∀ (j : Nat) (x : Value), cells.flatten[j]? = some x → w.cell? ⟨b, off + j, none⟩ = some x := by
      intro j x hj
      obtain ⟨i, j', c, h1, h2, h3⟩ := flat_get cells hu j x hj
      obtain ⟨_, b', off', cap', e3, e4⟩ := h.elem h1
      rw [e1] at e3
      simp only [Value.slice.injEq, Option.some.injEq, Addr.mk.injEq, and_true] at e3
      obtain ⟨⟨rfl, rfl⟩, _⟩ := e3
      have := e4 j' x h2
      rw [h3, show off + (i * es + j') = off + i * es + j' by omega]
      exact this
    have := run_loadCells (P := P) b off _ hload
    rw [hl] at this
    rw [e1]
    refine ⟨by simp [Builtin.lenOf], ?_⟩
    simp only [Builtin.firstCells]
    exact this

/-- what is appended -/
def Src (P : Program) (H : List HA) (v : Value) (es : Nat) (new : List (List Value)) : Prop :=
  (∀ c ∈ new, c.length = es ∧ ∀ u ∈ c, u.oneCell' = true) ∧
  ∀ w o, Sats w o H → (Builtin.lenOf v).run P w = .ok new.length w ∧ (Builtin.firstCells es new.length v).run P w = .ok new.flatten.toArray w
theorem src_reads {P : Program} {v : Value} {es : Nat} {new : List (List Value)} {h : HA} (m : Nat) (hm : H[m]? = some h) (hr : Reads h v es new)
    (hc : ∀ c ∈ new, c.length = es ∧ ∀ u ∈ c, u.oneCell' = true) : Src P H v es new :=
  ⟨hc, fun w o hs => run_firstCells (hr.is w o m (hs m h hm))⟩
theorem u8c_ok (l : List UInt8) : ∀ c ∈ u8c l, c.length = 1 ∧ ∀ u ∈ c, u.oneCell' = true := by
  intro c hc
  simp only [u8c, List.mem_map] at hc
  obtain ⟨b, _, rfl⟩ := hc
  simp [Value.oneCell']
theorem u8c_flat (l : List UInt8) : (u8c l).flatten = l.map fun b => Value.int .u8 b.toNat := by
  induction l with
  | nil => rfl
  | cons b r ih => simp only [u8c, List.map_cons, List.flatten_cons] at ih ⊢; rw [ih]; rfl
theorem src_str {P : Program} (l : List UInt8) : Src P H (.string (bs l)) 1 (u8c l) := by
  refine ⟨u8c_ok l, fun w o _ => ⟨by simp [Builtin.lenOf, bs_size, u8c], ?_⟩⟩
  have : (bs l).extract 0 l.length = bs l := by
    rw [← bs_size l]; exact ByteArray.extract_zero_size
  simp [Builtin.firstCells, u8c_flat, show (u8c l).length = l.length by simp [u8c], this]
  simp [bs]
theorem src_nil {P : Program} {es : Nat} : Src P H (.slice none 0 0) es [] :=
  ⟨fun c hc => by simp at hc, fun w o _ => ⟨by simp [Builtin.lenOf], by simp [Builtin.firstCells]⟩⟩

theorem growBy_le {n : Nat} : ∀ (r c : Nat), c ≤ n + (n + 768) / 4 → Builtin.growBy n r c ≤ n + (n + 768) / 4
  | 0, c, h => h
  | r + 1, c, h => by
    unfold Builtin.growBy
    split
    · exact h
    · exact growBy_le r _ (by omega)
theorem nextcap_le {n c : Nat} (h : c < n) : Builtin.nextslicecap n c ≤ 2 * n + 1000 := by
  unfold Builtin.nextslicecap
  split
  · omega
  · split
    · omega
    · have := growBy_le (n := n) 4 c (by omega); omega

def dropO (x : Ow) (m : Nat) : Ow := match x with | .mine k => if k = m then .no else .mine k | x => x
theorem dropO_ne {x : Ow} {m : Nat} (h : x ≠ .mine m) : dropO x m = x := by
  cases x with
  | mine k =>
    have : k ≠ m := fun e => h (e ▸ rfl)
    simp [dropO, this]
  | no => rfl
  | far => rfl
/-- block b is m's now, what was m's is nobody's -/
def swapOwn (o : Own) (b m : Nat) : Own := fun x => if x = b then .mine m else dropO (o x) m

section append
variable {P : Program} {d : Option Nat} {ty : TypeId} {pos : String} {af : Array Edge} {g : Option (Nat × Bool)}

theorem zeroCells_size (z : Array Value) (n : Nat) : (Builtin.zeroCells z n).size = n * z.size := by simp [Builtin.zeroCells]

theorem row_append_here {w w' : World} {M : Nat → Prop} {b off cap es : Nat} {arr : Array Value} {T : TypeId} {fz : Nat × Nat} {cells new : List (List Value)} (hM : M b) (hb : b < w'.heap.size)
    (hw : Wr w b (.cells (writeAt arr (off + cells.length * es) new.flatten) T fz) w') (h5 : fz.2 ≤ fz.1 ∨ arr.size ≤ fz.1) (h6 : arr.size = off + cap * es) (h7 : cells.length + new.length ≤ cap) (h8 : cap ≤ maxLen)
    (h9 : ∀ c ∈ cells, c.length = es) (hn : ∀ c ∈ new, c.length = es)
    (h10 : ∀ (i : Nat) (c : List Value), cells[i]? = some c → ∀ (j : Nat) (x : Value), c[j]? = some x → arr[off + i * es + j]? = some x) :
    RowIs w' M (.slice (some ⟨b, off, none⟩) (cells.length + new.length) cap) es (cells ++ new) := by
  have hfl := flat_len new hn
  have hroom : off + cells.length * es + new.flatten.length ≤ arr.size := by
    rw [hfl, h6, Nat.add_assoc, ← Nat.add_mul]
    exact Nat.add_le_add_left (Nat.mul_le_mul_right _ h7) _
  refine .inr ⟨b, off, cap, _, T, fz, by simp, hM, hb, hw.here, by rw [size_writeAt]; exact h5, by rw [size_writeAt]; exact h6, by simpa using h7, h8, ?_, ?_⟩
  · intro c hc
    rcases List.mem_append.1 hc with hc | hc
    · exact h9 c hc
    · exact hn c hc
  · intro i c hi j x hj
    rw [get_writeAt _ _ _ _ hroom]
    rw [List.getElem?_append] at hi
    split at hi
    · rename_i hlt
      have hjl : j < es := by have := h9 c (List.mem_of_getElem? hi); have := (List.getElem?_eq_some_iff.1 hj).1; omega
      have hle : (i + 1) * es ≤ cells.length * es := Nat.mul_le_mul_right _ hlt
      rw [Nat.succ_mul] at hle
      rw [if_neg (by omega)]
      exact h10 i c hi j x hj
    · rename_i hge
      have hjl : j < es := by have := hn c (List.mem_of_getElem? hi); have := (List.getElem?_eq_some_iff.1 hj).1; omega
      have hlt' := (List.getElem?_eq_some_iff.1 hi).1
      have e1 : i * es = cells.length * es + (i - cells.length) * es := by rw [← Nat.add_mul]; congr 1; omega
      have hle : (i - cells.length + 1) * es ≤ new.length * es := Nat.mul_le_mul_right _ hlt'
      rw [Nat.succ_mul] at hle
      rw [if_pos (by omega)]
      have := flat_at new hn (i - cells.length) j c x hi hj
      rw [← this]; congr 1; omega

theorem row_append_new {w : World} {M : Nat → Prop} {es c' : Nat} {T : TypeId} {z : Array Value} {cells new : List (List Value)} (hz : z.size = es) {w' : World}
    (hw : Nw w (.cells (cells.flatten.toArray ++ new.flatten.toArray ++ Builtin.zeroCells z (c' - (cells.length + new.length))) T) w') (hM : M w.heap.size) (hle : cells.length + new.length ≤ c') (h8 : c' ≤ maxLen)
    (h9 : ∀ c ∈ cells, c.length = es) (hn : ∀ c ∈ new, c.length = es) :
    RowIs w' M (.slice (some ⟨w.heap.size, 0, none⟩) (cells.length + new.length) c') es (cells ++ new) := by
  have h1 := flat_len cells h9
  have h2 := flat_len new hn
  have hall : ∀ c ∈ cells ++ new, c.length = es := by
    intro c hc
    rcases List.mem_append.1 hc with hc | hc
    · exact h9 c hc
    · exact hn c hc
  refine .inr ⟨w.heap.size, 0, c', _, T, (0, 0), by simp, hM, by rw [hw.size]; omega, hw.here, .inl (Nat.le_refl _), ?_, by simpa using hle, h8, hall, ?_⟩
  · simp only [Array.size_append, List.size_toArray, h1, h2, zeroCells_size, hz, Nat.zero_add]
    rw [← Nat.add_mul, ← Nat.add_mul]; congr 1; omega
  · intro i c hi j x hj
    have := flat_at (cells ++ new) hall i j c x hi hj
    rw [List.flatten_append] at this
    have hlt := (List.getElem?_eq_some_iff.1 this).1
    rw [Nat.zero_add, Array.getElem?_append, if_pos (by simpa using hlt)]
    simpa using this

theorem storeCells_nil {a : Addr} {w : World} : (storeCells a []).run P w = .ok () w := by simp [storeCells]
set_option maxHeartbeats 1000000 in
theorem t_append {Ts : Array TypeId} {T T2 el : TypeId} {ds2 : TypeDesc} {es : Nat} {x y : Operand} {v vy z : Value} {ti : TypeInfo} {cells new : List (List Value)} (m : Nat)
    (hT : Ts[0]? = some T) (hu : ∀ w, (underlying T).run P w = .ok (.slice el) w) (hT2 : Ts[1]? = some T2) (hu2 : ∀ w, (underlying T2).run P w = .ok ds2 w) (hni : ds2 = .string ∨ ∃ e, ds2 = .slice e)
    (hti : ∀ w, (typeInfo el).run P w = .ok ti w) (hes : ti.size = es) (hby : ti.bytes ≠ 0) (h0 : ∀ w, (zeroValue el).run P w = .ok z w) (hzs : z.cells.size = es)
    (hx : V.ev x = some v) (hm : H[m]? = some (row v es cells)) (hy : V.ev y = some vy) (hsrc : Src P H vy es new) (hcap : (2 * (cells.length + new.length) + 1000) * ti.bytes ≤ 2 ^ 48) (hlen : cells.length + new.length ≤ maxLen) :
    OpT P ⟨d, .call ⟨.builtin .append, #[x, y], Ts⟩, ty, pos, af, g⟩ V H (fun v' H' => H' = H.set m (row v' es (cells ++ new))) := by
  intro ρ w o hf hbd hs
  have hrow := hs m _ hm
  have hsl := RowIs.slice (B := fun b => o b = .mine m) (fun _ h => h) hrow
  obtain ⟨hs1, hs2⟩ := run_firstCells (P := P) hsl
  have huni := hsl.uni
  obtain ⟨hnew, hsrc⟩ := hsrc
  obtain ⟨hn1, hn2⟩ := hsrc w o hs
  have hnu : ∀ c ∈ new, c.length = es := fun c hc => (hnew c hc).1
  have hone : ∀ u ∈ new.flatten, u.oneCell' = true := fun u hu => by
    obtain ⟨c, hc, hu⟩ := List.mem_flatten.1 hu
    exact (hnew c hc).2 u hu
  obtain ⟨a, cap, e1, e2, e3, e4, _⟩ := id hsl
  have hsz : ∀ w, (sizeOf el).run P w = .ok es w := fun w => by simp [sizeOf, hti, hes]
  -- the run
  by_cases hroom : cells.length + new.length ≤ cap
  · -- in place
    rcases hrow with ⟨r1, r2⟩ | ⟨b, off, cap', arr, T', fz, r1, r2, r3, r4, r5, r6, r7, r8, r9, r10⟩
    · -- nil: nothing is appended
      have hcap0 : cap = 0 := by obtain ⟨a', r1⟩ := r1; rw [e1] at r1; simp at r1; exact r1.2.2
      subst r2
      have hnil : new = [] := by cases new with | nil => rfl | cons _ _ => simp at hroom; omega
      subst hnil
      have hrun : (execOp ρ ⟨d, .call ⟨.builtin .append, #[x, y], Ts⟩, ty, pos, af, g⟩).run P w = .ok (.value v) w := by
        rw [e1] at hx
        subst hcap0
        simp at hn1 hn2 hx
        cases a <;> rcases hni with rfl | ⟨e, rfl⟩ <;> simp [execOp, resolve, invoke, builtin, hf x _ hx, hf y _ hy, Builtin.append_, hT, hu, hT2, hu2, hsz, hn1, hn2, e1, storeCells_nil, Result.andThen]
      unfold Does
      rw [hrun]
      refine ⟨_, o, rfl, hbd, Tr.refl w o, ?_⟩
      exact sats_upd (Nat.le_refl _) (fun b _ _ => ⟨rfl, rfl⟩) hs (.inl ⟨r1, rfl⟩)
    · have haa : a = some ⟨b, off, none⟩ ∧ cap = cap' := by rw [e1] at r1; simp at r1; exact r1
      obtain ⟨rfl, rfl⟩ := haa
      have hfl := flat_len new hnu
      have hadd : (Addr.add ⟨b, off, none⟩ (cells.length * es)) = ⟨b, off + cells.length * es, none⟩ := by unfold Addr.add; split <;> simp_all
      obtain ⟨w', h2, h3⟩ := run_storeCells (P := P) new.flatten 0 arr w r4 r5 (off := off + cells.length * es)
        (by rw [hfl, r6, Nat.add_zero, Nat.add_assoc, ← Nat.add_mul]; exact Nat.add_le_add_left (Nat.mul_le_mul_right _ hroom) _) hone
      have hrun : (execOp ρ ⟨d, .call ⟨.builtin .append, #[x, y], Ts⟩, ty, pos, af, g⟩).run P w = .ok (.value (.slice (some ⟨b, off, none⟩) (cells.length + new.length) cap)) w' := by
        rw [e1] at hx
        rcases hni with rfl | ⟨e, rfl⟩ <;> simp [execOp, resolve, invoke, builtin, hf x _ hx, hf y _ hy, Builtin.append_, hT, hu, hT2, hu2, hsz, hn1, hn2, hroom, hadd, h2]
      unfold Does
      rw [hrun]
      refine ⟨_, o, rfl, fun b' hb' => hbd b' (by rw [h3.size] at hb'; exact hb'), ⟨h3.os, h3.tape, h3.output, by rw [h3.size]; exact Nat.le_refl _, fun b' hlt hb' => ⟨hb', h3.other b' ?_⟩, fun b' hlt hb' => ⟨hb', h3.other b' ?_⟩⟩, ?_⟩
      · rintro rfl; rw [r2] at hb'; cases hb'
      · rintro rfl; rw [r2] at hb'; cases hb'
      · refine sats_upd (by rw [h3.size]; exact Nat.le_refl _) (fun b' hlt hb' => ⟨rfl, h3.other b' ?_⟩) hs ?_
        · rintro rfl; exact hb' r2
        · exact row_append_here r2 (by rw [h3.size]; exact r3) (by simpa using h3) r5 r6 hroom r8 r9 hnu r10
  · -- a new block
    have hlt : cap < cells.length + new.length := by omega
    have hnc := nextcap_le hlt
    have hbig : ¬ Builtin.nextslicecap (cells.length + new.length) cap * ti.bytes > 2 ^ 48 := by
      have : Builtin.nextslicecap (cells.length + new.length) cap * ti.bytes ≤ (2 * (cells.length + new.length) + 1000) * ti.bytes := Nat.mul_le_mul_right _ hnc
      omega
    have hq : (Question.appendCap (cells.length + new.length) cap el).forced = false := rfl
    obtain ⟨c', hc'⟩ : ∃ c', c' = (Question.appendCap (cells.length + new.length) cap el).cut (w.tape w.drawn (Question.appendCap (cells.length + new.length) cap el)) := ⟨_, rfl⟩
    have hc1 : cells.length + new.length ≤ c' := by rw [hc']; simp only [Question.cut]; omega
    have hc2 : c' ≤ maxLen := by
      rw [hc']; simp only [Question.cut]; unfold maxLen at hlen ⊢
      have : w.tape w.drawn (Question.appendCap (cells.length + new.length) cap el) % (2 ^ 63 - (cells.length + new.length)) < 2 ^ 63 - (cells.length + new.length) := Nat.mod_lt _ (by omega)
      omega
    have hnw : Nw w (.cells (cells.flatten.toArray ++ new.flatten.toArray ++ Builtin.zeroCells z.cells (c' - (cells.length + new.length))) el)
        (w.drew.alloc (.cells (cells.flatten.toArray ++ new.flatten.toArray ++ Builtin.zeroCells z.cells (c' - (cells.length + new.length))) el)) := nw_push w _ _
    have hs2' : (Builtin.firstCells es cells.length v).run P w.drew = .ok cells.flatten.toArray w.drew := (run_firstCells (P := P) (w := w.drew) hsl).2
    have hn2' : (Builtin.firstCells es new.length vy).run P w.drew = .ok new.flatten.toArray w.drew :=
      (hsrc w.drew o (fun j h hj => h.keep (w := w) (w' := w.drew) (Nat.le_refl _) (fun b _ hb => ⟨hb, rfl⟩) (fun b _ hb => ⟨hb, rfl⟩) (hs j h hj))).2
    have hrun : (execOp ρ ⟨d, .call ⟨.builtin .append, #[x, y], Ts⟩, ty, pos, af, g⟩).run P w = .ok (.value (.slice (some ⟨w.heap.size, 0, none⟩) (cells.length + new.length) c'))
        (w.drew.alloc (.cells (cells.flatten.toArray ++ new.flatten.toArray ++ Builtin.zeroCells z.cells (c' - (cells.length + new.length))) el)) := by
      rw [e1] at hx hs2'
      rcases hni with rfl | ⟨e, rfl⟩ <;> simp [execOp, resolve, invoke, builtin, hf x _ hx, hf y _ hy, Builtin.append_, hT, hu, hT2, hu2, hsz, hn1, hroom, hti, hby, hbig, hq, ← hc', hs2', hn2', h0, newRow] <;> (rw [← Array.append_assoc]; simp)
    unfold Does
    rw [hrun]
    have hne : ∀ b, b < w.heap.size → o b ≠ .mine m → swapOwn o w.heap.size m b = o b := fun b hlt hb => by
      simp [swapOwn, Nat.ne_of_lt hlt, dropO_ne hb]
    refine ⟨_, swapOwn o w.heap.size m, rfl, ?_, ?_, ?_⟩
    · intro b hb
      rw [hnw.size] at hb
      have := hbd b (by omega)
      simp only [swapOwn]
      rw [if_neg (by omega), this]
      rfl
    · refine ⟨hnw.os, hnw.tape, hnw.output, by rw [hnw.size]; omega, fun b hlt hb => ⟨?_, hnw.other b hlt⟩, fun b hlt hb => ⟨?_, hnw.other b hlt⟩⟩
      · rw [hne b hlt (by rw [hb]; intro h; cases h)]; exact hb
      · rw [hne b hlt (by rw [hb]; intro h; cases h)]; exact hb
    · refine sats_upd (by rw [hnw.size]; omega) (fun b hlt hb => ⟨hne b hlt hb, hnw.other b hlt⟩) hs ?_
      exact row_append_new hzs hnw (by simp [swapOwn]) hc1 hc2 huni hnu
end append
end Go.Abs
