/-
  Assertions on memory (a slice that is only read, a slice of the call's own, a block of the call's own), and the operations that read.
-/
import Derived.Test.YtigiikkenamneaaAbsOps
namespace Go.Abs

variable {k : List KI} {V : VF} {H : List HA}

def Value.sbase : Value → Addr
  | .slice (some a) _ _ => a
  | _ => default
/-- the pointer to the cell that lies n cells behind the slice's first one -/
def elemP (v : Value) (n : Nat) : Value := .pointer (some ⟨(Value.sbase v).block, (Value.sbase v).off + n, none⟩)
def boxP (b off : Nat) : Value := .pointer (some ⟨b, off, none⟩)

/-- the cells that a slice leads to lie, in this order, in a block that meets 'B' -/
def CellsOf (w : World) (B : Nat → Prop) (a : Option Addr) (es : Nat) (cells : List (List Value)) : Prop :=
  ∀ (i : Nat) (c : List Value), cells[i]? = some c → c.length = es ∧ ∃ b off, a = some ⟨b, off, none⟩ ∧ b < w.heap.size ∧ B b ∧
    ∀ (j : Nat) (x : Value), c[j]? = some x → w.cell? ⟨b, off + i * es + j, none⟩ = some x

def SliceIs (w : World) (B : Nat → Prop) (v : Value) (es : Nat) (cells : List (List Value)) : Prop :=
  ∃ a cap, v = .slice a cells.length cap ∧ cells.length ≤ cap ∧ cap ≤ maxLen ∧ (a = none → cap = 0) ∧ CellsOf w B a es cells

theorem cell_of_block {w w' : World} {b : Nat} (h : w'.heap[b]? = w.heap[b]?) (off : Nat) : w'.cell? ⟨b, off, none⟩ = w.cell? ⟨b, off, none⟩ := by
  simp only [World.cell?, h]

theorem CellsOf.keep {w w' : World} {B B' : Nat → Prop} {a : Option Addr} {es : Nat} {cells : List (List Value)} (hs : w.heap.size ≤ w'.heap.size)
    (h : ∀ b, b < w.heap.size → B b → B' b ∧ w'.heap[b]? = w.heap[b]?) (hc : CellsOf w B a es cells) : CellsOf w' B' a es cells := by
  intro i c hi
  obtain ⟨h1, b, off, h2, h3, h4, h5⟩ := hc i c hi
  obtain ⟨h6, h7⟩ := h b h3 h4
  exact ⟨h1, b, off, h2, Nat.lt_of_lt_of_le h3 hs, h6, fun j x hj => by rw [cell_of_block h7]; exact h5 j x hj⟩
theorem SliceIs.keep {w w' : World} {B B' : Nat → Prop} {v : Value} {es : Nat} {cells : List (List Value)} (hs : w.heap.size ≤ w'.heap.size)
    (h : ∀ b, b < w.heap.size → B b → B' b ∧ w'.heap[b]? = w.heap[b]?) (hc : SliceIs w B v es cells) : SliceIs w' B' v es cells := by
  obtain ⟨a, cap, h1, h2, h3, h4, h5⟩ := hc
  exact ⟨a, cap, h1, h2, h3, h4, h5.keep hs h⟩

/-- a slice that is only read -/
def ro (v : Value) (es : Nat) (cells : List (List Value)) : HA :=
  ⟨fun w o _ => SliceIs w (fun b => o b = .no) v es cells, fun hs _ h2 hc => hc.keep hs h2⟩

/-- a slice of the call's own: nil, or the head part of a block that nobody else sees -/
def RowIs (w : World) (M : Nat → Prop) (v : Value) (es : Nat) (cells : List (List Value)) : Prop :=
  ((∃ a, v = .slice a 0 0) ∧ cells = []) ∨
  ∃ b off cap arr T fz, v = .slice (some ⟨b, off, none⟩) cells.length cap ∧ M b ∧ b < w.heap.size ∧ w.heap[b]? = some (.cells arr T fz) ∧
    (fz.2 ≤ fz.1 ∨ arr.size ≤ fz.1) ∧ arr.size = off + cap * es ∧ cells.length ≤ cap ∧ cap ≤ maxLen ∧ (∀ c ∈ cells, c.length = es) ∧
    ∀ (i : Nat) (c : List Value), cells[i]? = some c → ∀ (j : Nat) (x : Value), c[j]? = some x → arr[off + i * es + j]? = some x

theorem RowIs.keep {w w' : World} {M M' : Nat → Prop} {v : Value} {es : Nat} {cells : List (List Value)} (hs : w.heap.size ≤ w'.heap.size)
    (h : ∀ b, b < w.heap.size → M b → M' b ∧ w'.heap[b]? = w.heap[b]?) (hc : RowIs w M v es cells) : RowIs w' M' v es cells := by
  rcases hc with hc | ⟨b, off, cap, arr, T, fz, h1, h2, h3, h4, h5⟩
  · exact .inl hc
  · obtain ⟨e1, e2⟩ := h b h3 h2
    exact .inr ⟨b, off, cap, arr, T, fz, h1, e1, Nat.lt_of_lt_of_le h3 hs, e2.trans h4, h5⟩

def row (v : Value) (es : Nat) (cells : List (List Value)) : HA :=
  ⟨fun w o k => RowIs w (fun b => o b = .mine k) v es cells, fun hs h1 _ hc => hc.keep hs h1⟩

theorem cell_at {w : World} {b : Nat} {arr : Array Value} {T : TypeId} {fz : Nat × Nat} (h : w.heap[b]? = some (.cells arr T fz)) (off : Nat) :
    w.cell? ⟨b, off, none⟩ = arr[off]? := by simp [World.cell?, h]
theorem frozen_at {w : World} {b : Nat} {arr : Array Value} {T : TypeId} {fz : Nat × Nat} (h : w.heap[b]? = some (.cells arr T fz)) (hf : fz.2 ≤ fz.1 ∨ arr.size ≤ fz.1) (off : Nat) (ho : off < arr.size) :
    w.frozen? ⟨b, off, none⟩ = false := by
  obtain ⟨lo, hi⟩ := fz
  simp only [World.frozen?, h]
  rw [Bool.and_eq_false_iff]
  rcases hf with hf | hf
  · simp at hf ⊢; omega
  · simp at hf ⊢; omega

/-- a row is a slice that can be read -/
theorem RowIs.slice {w : World} {M B : Nat → Prop} {v : Value} {es : Nat} {cells : List (List Value)} (hB : ∀ b, M b → B b) (h : RowIs w M v es cells) : SliceIs w B v es cells := by
  rcases h with ⟨h1, h2⟩ | ⟨b, off, cap, arr, T, fz, h1, h2, h3, h4, h5, h6, h7, h8, h9, h10⟩
  · subst h2
    obtain ⟨a, h1⟩ := h1
    exact ⟨a, 0, h1, Nat.le_refl _, Nat.zero_le _, fun _ => rfl, fun i c hi => by simp at hi⟩
  · refine ⟨_, cap, h1, h7, h8, fun e => by simp at e, ?_⟩
    intro i c hi
    refine ⟨h9 c (List.mem_of_getElem? hi), b, off, rfl, h3, hB b h2, fun j x hj => ?_⟩
    rw [cell_at h4]
    exact h10 i c hi j x hj

/-- whatever can be read as a slice -/
structure Reads (h : HA) (v : Value) (es : Nat) (cells : List (List Value)) : Prop where
  is : ∀ w o k, h.p w o k → SliceIs w (fun b => o b = .no ∨ o b = .mine k) v es cells
theorem reads_ro {v : Value} {es : Nat} {cells : List (List Value)} : Reads (ro v es cells) v es cells :=
  ⟨fun _ _ _ h => SliceIs.keep (Nat.le_refl _) (fun _ _ hb => ⟨.inl hb, rfl⟩) h⟩
theorem reads_row {v : Value} {es : Nat} {cells : List (List Value)} : Reads (row v es cells) v es cells :=
  ⟨fun _ _ _ h => RowIs.slice (fun _ hb => .inr hb) h⟩

/-- a block of the call's own, known whole -/
def box (b : Nat) (vs : List Value) : HA :=
  ⟨fun w o k => o b = .mine k ∧ b < w.heap.size ∧ ∃ T fz, w.heap[b]? = some (.cells vs.toArray T fz) ∧ fz.2 ≤ fz.1, fun hs h1 _ hc =>
    let ⟨e1, e2, T, fz, e3, e4⟩ := hc; let ⟨e5, e6⟩ := h1 b e2 e1; ⟨e5, Nat.lt_of_lt_of_le e2 hs, T, fz, e6.trans e3, e4⟩⟩

/-! loads -/
section loads
variable {P : Program} {d : Option Nat} {ty : TypeId} {pos : String} {af : Array Edge} {g : Option (Nat × Bool)}

theorem run_loadCellsFrom {w : World} (b off : Nat) : ∀ (c : List Value) (i : Nat) (acc : Array Value), (∀ (j : Nat) (x : Value), c[j]? = some x → w.cell? ⟨b, off + i + j, none⟩ = some x) →
    (loadCellsFrom ⟨b, off, none⟩ i c.length acc).run P w = .ok (acc ++ c.toArray) w
  | [], i, acc, _ => by simp [loadCellsFrom]
  | x :: c, i, acc, h => by
    have h0 := h 0 x rfl
    have ha : (Addr.add ⟨b, off, none⟩ i) = ⟨b, off + i, none⟩ := by unfold Addr.add; split <;> simp_all
    have ih := run_loadCellsFrom b off c (i + 1) (acc.push x) (fun j y hj => by have := h (j + 1) y (by simpa using hj); rw [← this]; congr 2; omega)
    simp only [List.length_cons, loadCellsFrom, Sem.run_bind, run_load, ha]
    rw [show off + i = off + i + 0 by omega, h0]
    simp only [Result.andThen_ok]
    rw [ih]; simp
theorem run_loadCells {w : World} (b off : Nat) (c : List Value) (h : ∀ (j : Nat) (x : Value), c[j]? = some x → w.cell? ⟨b, off + j, none⟩ = some x) :
    (loadCells ⟨b, off, none⟩ c.length).run P w = .ok c.toArray w := by
  unfold loadCells
  rw [run_loadCellsFrom b off c 0 #[] (by simpa using h)]; simp

theorem SliceIs.elem {w : World} {B : Nat → Prop} {v : Value} {es : Nat} {cells : List (List Value)} (h : SliceIs w B v es cells) {i : Nat} {c : List Value} (hi : cells[i]? = some c) :
    c.length = es ∧ ∃ b off cap, v = .slice (some ⟨b, off, none⟩) cells.length cap ∧ ∀ (j : Nat) (x : Value), c[j]? = some x → w.cell? ⟨b, off + i * es + j, none⟩ = some x := by
  obtain ⟨a, cap, h1, _, _, _, h5⟩ := h
  obtain ⟨e1, b, off, e2, _, _, e5⟩ := h5 i c hi
  exact ⟨e1, b, off, cap, by rw [h1, e2], e5⟩

theorem y_load_elem {T : TypeId} {x : Operand} {v r : Value} {es i : Nat} {cells : List (List Value)} {h : HA} (m : Nat) (ha : ∀ w, (isAgg T).run P w = .ok false w)
    (hx : V.ev x = some (elemP v (i * es))) (hm : H[m]? = some h) (hr : Reads h v es cells) (hc : cells[i]? = some [r]) : OpY P ⟨d, .load T x, ty, pos, af, g⟩ V H r := by
  intro ρ w o hf _ hs
  obtain ⟨_, b, off, cap, e1, e2⟩ := (hr.is w o m (hs m h hm)).elem hc
  have := e2 0 r rfl
  subst e1
  simp [execOp, hf x _ hx, Instr.loadAt, Instr.sureAddr, elemP, Value.sbase, loadVar, ha]
  simp at this
  simp [this]
theorem y_load_field {T : TypeId} {x : Operand} {v r : Value} {es i j : Nat} {c : List Value} {cells : List (List Value)} {h : HA} (m : Nat) (ha : ∀ w, (isAgg T).run P w = .ok false w)
    (hx : V.ev x = some (elemP v (i * es + j))) (hm : H[m]? = some h) (hr : Reads h v es cells) (hc : cells[i]? = some c) (hj : c[j]? = some r) : OpY P ⟨d, .load T x, ty, pos, af, g⟩ V H r := by
  intro ρ w o hf _ hs
  obtain ⟨_, b, off, cap, e1, e2⟩ := (hr.is w o m (hs m h hm)).elem hc
  have := e2 j r hj
  subst e1
  simp [execOp, hf x _ hx, Instr.loadAt, Instr.sureAddr, elemP, Value.sbase, loadVar, ha]
  rw [show off + (i * es + j) = off + i * es + j by omega]
  simp [this]
theorem y_load_agg {T : TypeId} {x : Operand} {v : Value} {es i : Nat} {c : List Value} {cells : List (List Value)} {h : HA} (m : Nat) (ha : ∀ w, (isAgg T).run P w = .ok true w) (hz : ∀ w, (sizeOf T).run P w = .ok es w)
    (hx : V.ev x = some (elemP v (i * es))) (hm : H[m]? = some h) (hr : Reads h v es cells) (hc : cells[i]? = some c) : OpY P ⟨d, .load T x, ty, pos, af, g⟩ V H (.agg c.toArray) := by
  intro ρ w o hf _ hs
  obtain ⟨e0, b, off, cap, e1, e2⟩ := (hr.is w o m (hs m h hm)).elem hc
  subst e1
  have := run_loadCells (P := P) (w := w) b (off + i * es) c e2
  rw [e0] at this
  simp [execOp, hf x _ hx, Instr.loadAt, Instr.sureAddr, elemP, Value.sbase, loadVar, ha, hz, this]
theorem y_load_box {T : TypeId} {x : Operand} {r : Value} {b off : Nat} {vs : List Value} (m : Nat) (ha : ∀ w, (isAgg T).run P w = .ok false w)
    (hx : V.ev x = some (boxP b off)) (hm : H[m]? = some (box b vs)) (hc : vs[off]? = some r) : OpY P ⟨d, .load T x, ty, pos, af, g⟩ V H r := by
  intro ρ w o hf _ hs
  obtain ⟨_, _, T', fz, e3, _⟩ := hs m _ hm
  have := cell_at e3 off
  simp [execOp, hf x _ hx, Instr.loadAt, Instr.sureAddr, boxP, loadVar, ha, this, hc]
/-- the whole block, or a part of it -/
theorem y_load_boxagg {T : TypeId} {x : Operand} {b off : Nat} {c vs : List Value} (m : Nat) (ha : ∀ w, (isAgg T).run P w = .ok true w) (hz : ∀ w, (sizeOf T).run P w = .ok c.length w)
    (hx : V.ev x = some (boxP b off)) (hm : H[m]? = some (box b vs)) (hc : (vs.drop off).take c.length = c) : OpY P ⟨d, .load T x, ty, pos, af, g⟩ V H (.agg c.toArray) := by
  intro ρ w o hf _ hs
  obtain ⟨_, _, T', fz, e3, _⟩ := hs m _ hm
  have := run_loadCells (P := P) (w := w) b off c (fun j y hj => by
    rw [cell_at e3]
    rw [← hc, List.getElem?_take] at hj
    split at hj
    · simpa [List.getElem?_drop] using hj
    · simp at hj)
  simp [execOp, hf x _ hx, Instr.loadAt, Instr.sureAddr, boxP, loadVar, ha, hz, this]
theorem y_fieldAddr_box {S : TypeId} {x : Operand} {b off fi : Nat} {fs : Array Field} {f : Field} {sz : Nat} (hu : ∀ w, (underlying S).run P w = .ok (.struct fs) w) (hf' : fs[fi]? = some f)
    (hz : ∀ w, (sizeOf f.type).run P w = .ok (sz + 1) w) (hx : V.ev x = some (boxP b off)) : OpY P ⟨d, .fieldAddr S x fi, ty, pos, af, g⟩ V H (boxP b (off + f.offset)) := by
  intro ρ w o hf _ _
  have ha : (Addr.add ⟨b, off, none⟩ f.offset) = ⟨b, off + f.offset, none⟩ := by unfold Addr.add; split <;> simp_all
  simp [execOp, hf x _ hx, Instr.fieldAt, hu, hf', Instr.sureAddr, boxP, fieldPlace, hz, ha]
theorem y_fieldAddr_elem {S : TypeId} {x : Operand} {v : Value} {n fi : Nat} {fs : Array Field} {f : Field} {sz : Nat} (hu : ∀ w, (underlying S).run P w = .ok (.struct fs) w) (hf' : fs[fi]? = some f)
    (hz : ∀ w, (sizeOf f.type).run P w = .ok (sz + 1) w) (hx : V.ev x = some (elemP v n)) : OpY P ⟨d, .fieldAddr S x fi, ty, pos, af, g⟩ V H (elemP v (n + f.offset)) := by
  intro ρ w o hf _ _
  have ha : (Addr.add ⟨(Value.sbase v).block, (Value.sbase v).off + n, none⟩ f.offset) = ⟨(Value.sbase v).block, (Value.sbase v).off + (n + f.offset), none⟩ := by unfold Addr.add; split <;> simp_all <;> omega
  simp [execOp, hf x _ hx, Instr.fieldAt, hu, hf', Instr.sureAddr, elemP, fieldPlace, hz, ha]
theorem y_indexAddr {T el : TypeId} {x y : Operand} {v : Value} {kd : IntKind} {n es : Nat} {cells : List (List Value)} {h : HA} (m : Nat) (hu : ∀ w, (underlying T).run P w = .ok (.slice el) w)
    (hz : ∀ w, (sizeOf el).run P w = .ok es w) (hx : V.ev x = some v) (hy : V.ev y = some (.int kd n)) (hm : H[m]? = some h) (hr : Reads h v es cells) (hn : n < cells.length) :
    OpY P ⟨d, .indexAddr T x y, ty, pos, af, g⟩ V H (elemP v (n * es)) := by
  intro ρ w o hf _ hs
  obtain ⟨_, b, off, cap, e1, _⟩ := (hr.is w o m (hs m h hm)).elem (List.getElem?_eq_getElem hn)
  subst e1
  have ha : (Addr.add ⟨b, off, none⟩ (n * es)) = ⟨b, off + n * es, none⟩ := by
    unfold Addr.add; split
    · rename_i h0; rw [h0]; rfl
    · rfl
  simp [execOp, hf x _ hx, hf y _ hy, Instr.indexAt, asIntOf, hu, hz, elemP, Value.sbase, ha, hn]

theorem run_len {Ts : Array TypeId} {T el : TypeId} {w : World} {a : Option Addr} {n cap : Nat} (hT : Ts[0]? = some T) (hu : ∀ w, (underlying T).run P w = .ok (.slice el) w) :
    (Builtin.len_ Ts ty #[.slice a n cap]).run P w = .ok (.int .i64 n) w := by
  simp [Builtin.len_, hT, hu, goInt]
theorem y_len {Ts : Array TypeId} {T el : TypeId} {x : Operand} {v : Value} {es : Nat} {cells : List (List Value)} {h : HA} (m : Nat) (hT : Ts[0]? = some T) (hu : ∀ w, (underlying T).run P w = .ok (.slice el) w)
    (hx : V.ev x = some v) (hm : H[m]? = some h) (hr : Reads h v es cells) : OpY P ⟨d, .call ⟨.builtin .len, #[x], Ts⟩, ty, pos, af, g⟩ V H (.int .i64 cells.length) := by
  intro ρ w o hf _ hs
  obtain ⟨a, cap, e1, _⟩ := hr.is w o m (hs m h hm)
  subst e1
  simp [execOp, resolve, invoke, builtin, hf x _ hx, run_len hT hu]
theorem y_len_nil {Ts : Array TypeId} {T el : TypeId} {x : Operand} (hT : Ts[0]? = some T) (hu : ∀ w, (underlying T).run P w = .ok (.slice el) w)
    (hx : V.ev x = some (.slice none 0 0)) : OpY P ⟨d, .call ⟨.builtin .len, #[x], Ts⟩, ty, pos, af, g⟩ V H (.int .i64 0) := by
  intro ρ w o hf _ hs
  simp [execOp, resolve, invoke, builtin, hf x _ hx, run_len hT hu]
theorem y_len_str {Ts : Array TypeId} {T : TypeId} {x : Operand} {l : List UInt8} (hT : Ts[0]? = some T) (hu : ∀ w, (underlying T).run P w = .ok .string w)
    (hx : V.ev x = some (.string (bs l))) : OpY P ⟨d, .call ⟨.builtin .len, #[x], Ts⟩, ty, pos, af, g⟩ V H (.int .i64 l.length) := by
  intro ρ w o hf _ hs
  simp [execOp, resolve, invoke, builtin, hf x _ hx, Builtin.len_, hT, hu, goInt, bs_size]
theorem y_min {Ts : Array TypeId} {x y : Operand} {kd : IntKind} {a b : Int} (hx : V.ev x = some (.int kd a)) (hy : V.ev y = some (.int kd b)) :
    OpY P ⟨d, .call ⟨.builtin .min, #[x, y], Ts⟩, ty, pos, af, g⟩ V H (.int kd (min a b)) := by
  intro ρ w o hf _ _
  simp [execOp, resolve, invoke, builtin, hf x _ hx, hf y _ hy, Builtin.min_, Builtin.min2]
  omega
theorem y_max {Ts : Array TypeId} {x y : Operand} {kd : IntKind} {a b : Int} (hx : V.ev x = some (.int kd a)) (hy : V.ev y = some (.int kd b)) :
    OpY P ⟨d, .call ⟨.builtin .max, #[x, y], Ts⟩, ty, pos, af, g⟩ V H (.int kd (max a b)) := by
  intro ρ w o hf _ _
  simp [execOp, resolve, invoke, builtin, hf x _ hx, hf y _ hy, Builtin.max_, Builtin.max2]
  omega
theorem y_index_str {T : TypeId} {x y : Operand} {kd : IntKind} {n : Nat} {l : List UInt8} {b : UInt8} (hu : ∀ w, (underlying T).run P w = .ok .string w) (hx : V.ev x = some (.string (bs l)))
    (hy : V.ev y = some (.int kd n)) (hb : l[n]? = some b) : OpY P ⟨d, .index T x y, ty, pos, af, g⟩ V H (.int .u8 b.toNat) := by
  intro ρ w o hf _ _
  have : (bs l)[n]? = some b := by
    have h1 : (bs l)[n]? = (bs l).data[n]? := by
      by_cases h : n < (bs l).size
      · rw [getElem?_pos (bs l) n h, getElem?_pos (bs l).data n h]; rfl
      · rw [getElem?_neg (bs l) n h, getElem?_neg (bs l).data n h]
    rw [h1]; simpa [bs] using hb
  simp [execOp, hf x _ hx, hf y _ hy, Instr.index, asIntOf, hu, this]

/-! bytes to a string -/
def u8c (l : List UInt8) : List (List Value) := l.map fun b => [.int .u8 b.toNat]
theorem foldl_push : ∀ (l : List UInt8) (acc : ByteArray), l.foldl (fun b a => b.push a) acc = ⟨acc.data ++ l.toArray⟩
  | [], acc => by simp
  | b :: l, acc => by
    rw [List.foldl_cons, foldl_push l]
    simp [ByteArray.push]
theorem y_b2s {S T el : TypeId} {x : Operand} {v : Value} {l : List UInt8} {h : HA} (m : Nat) (hS : ∀ w, (underlying S).run P w = .ok (.slice el) w) (he : ∀ w, (underlying el).run P w = .ok (.int .u8) w)
    (hT : ∀ w, (underlying T).run P w = .ok .string w) (hx : V.ev x = some v) (hm : H[m]? = some h) (hr : Reads h v 1 (u8c l)) : OpY P ⟨d, .convert S T x, ty, pos, af, g⟩ V H (.string (bs l)) := by
  intro ρ w o hf _ hs
  have hi := hr.is w o m (hs m h hm)
  cases hl : l with
  | nil =>
    subst hl
    obtain ⟨a, cap, e1, _⟩ := hi
    subst e1
    cases a with
    | none => simp [execOp, hf x _ hx, convert, hS, hT, he, Conv.bytesToString]; rfl
    | some a => simp [execOp, hf x _ hx, convert, hS, hT, he, Conv.bytesToString, u8c, loadCells, loadCellsFrom]; rfl
  | cons b0 l0 =>
    rw [← hl]
    obtain ⟨_, b, off, cap, e1, _⟩ := hi.elem (i := 0) (c := [.int .u8 b0.toNat]) (by simp [u8c, hl])
    have hc : ∀ (j : Nat) (x : Value), (l.map fun b => Value.int .u8 b.toNat)[j]? = some x → w.cell? ⟨b, off + j, none⟩ = some x := by
      intro j y hj
      rw [List.getElem?_map] at hj
      cases hlj : l[j]? with
      | none => rw [hlj] at hj; simp at hj
      | some bb =>
        rw [hlj] at hj
        simp at hj
        obtain ⟨_, b', off', cap', e3, e4⟩ := hi.elem (i := j) (c := [.int .u8 bb.toNat]) (by simp [u8c, hlj])
        rw [e1] at e3
        simp only [Value.slice.injEq, Option.some.injEq, Addr.mk.injEq, and_true] at e3
        obtain ⟨⟨rfl, rfl⟩, _⟩ := e3
        have := e4 0 y (by simp [hj])
        simpa using this
    have hr := run_loadCells (P := P) b off _ hc
    have hlen : (u8c l).length = (l.map fun b => Value.int .u8 b.toNat).length := by simp [u8c]
    rw [e1] at hx
    simp only [execOp, hf x _ hx, convert, Sem.run_bind, hS, hT, he, Result.andThen_ok, Conv.bytesToString, hlen, hr]
    have hfold := foldl_push l ByteArray.empty
    simp [hfold]
    simp [bs]
end loads
end Go.Abs
