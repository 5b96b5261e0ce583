/-
  Slices whose elements lead to further slices: the elements' cells are told by what is behind them ('g'), which nobody writes any more.
-/
import Derived.Test.YtigiikkenamneaaAbsOps2
import Derived.Test.YtigiikkenamneaaAbsCallX
namespace Go.Abs
set_option linter.unusedSimpArgs false
set_option linter.unusedVariables false
variable {E : Env} {k : List KI} {V : VF} {H : List HA}
/-- an assertion that hangs on what nobody writes, and on nothing else -/
def Free (a : HA) : Prop := ∀ w o o' k k', (∀ b, b < w.heap.size → o b = .no → o' b = .no) → a.p w o k → a.p w o' k'
theorem Free.at {a : HA} (h : Free a) : ∀ w o k k', a.p w o k → a.p w o k' := fun w o k k' => h w o o k k' fun _ _ h => h
theorem free_ro {v : Value} {es : Nat} {cells : List (List Value)} : Free (ro v es cells) := fun _ _ _ _ _ ho h => SliceIs.keep (Nat.le_refl _) (fun b hlt hb => ⟨ho b hlt hb, rfl⟩) h
theorem views_free {a : HA} (h : Free a) : Views a a false := fun w o m oc j h1 _ hp => h w o oc m j h1 hp

/-- how an element with slices in it is laid into cells: g, the slices' values; S, what is behind them -/
structure NC (α : Type) where
  G : Type
  es : Nat
  F : α → G → List Value
  S : α → G → List HA
  free : ∀ x g, ∀ h ∈ S x g, Free h
  ok : ∀ x g w o k, (∀ h ∈ S x g, h.p w o k) → (F x g).length = es ∧ ∀ u ∈ F x g, u.oneCell' = true

def HsP (L : List HA) (w : World) (o : Own) (k : Nat) : Prop := ∀ h ∈ L, h.p w o k
theorem HsP.keep {L : List HA} {w w' : World} {o o' : Own} {k k' : Nat} (hs : w.heap.size ≤ w'.heap.size) (h1 : ∀ b, b < w.heap.size → o b = .mine k → o' b = .mine k' ∧ w'.heap[b]? = w.heap[b]?)
    (h2 : ∀ b, b < w.heap.size → o b = .no → o' b = .no ∧ w'.heap[b]? = w.heap[b]?) (h : HsP L w o k) : HsP L w' o' k' := fun x hx => x.keep hs h1 h2 (h x hx)
theorem HsP.free {L : List HA} (hL : ∀ h ∈ L, Free h) {w : World} {o o' : Own} {k k' : Nat} (ho : ∀ b, b < w.heap.size → o b = .no → o' b = .no) (h : HsP L w o k) : HsP L w o' k' :=
  fun x hx => hL x hx w o o' k k' ho (h x hx)
section
variable {α : Type} {C : NC α} {v : Value} {l : List α}
def NC.cs (C : NC α) (lg : List (α × C.G)) : List (List Value) := lg.map fun p => C.F p.1 p.2
def nrow (v : Value) (C : NC α) (l : List α) : HA :=
  ⟨fun w o k => ∃ lg : List (α × C.G), l = lg.map (·.1) ∧ RowIs w (fun b => o b = .mine k) v C.es (C.cs lg) ∧ ∀ p ∈ lg, HsP (C.S p.1 p.2) w o k,
   fun hs h1 h2 ⟨lg, e, a, b⟩ => ⟨lg, e, a.keep hs h1, fun p hp => (b p hp).keep hs h1 h2⟩⟩
def nro (v : Value) (C : NC α) (l : List α) : HA :=
  ⟨fun w o k => ∃ lg : List (α × C.G), l = lg.map (·.1) ∧ SliceIs w (fun b => o b = .no) v C.es (C.cs lg) ∧ ∀ p ∈ lg, HsP (C.S p.1 p.2) w o k,
   fun hs h1 h2 ⟨lg, e, a, b⟩ => ⟨lg, e, a.keep hs h2, fun p hp => (b p hp).keep hs h1 h2⟩⟩
theorem NC.cs_len {lg : List (α × C.G)} (h : l = lg.map (·.1)) : (C.cs lg).length = l.length := by rw [h]; simp [NC.cs]
theorem free_nro : Free (nro v C l) := fun w o o' k k' ho ⟨lg, e, a, b⟩ => ⟨lg, e, a.keep (Nat.le_refl _) (fun b hlt hb => ⟨ho b hlt hb, rfl⟩), fun p hp => (b p hp).free (C.free _ _) ho⟩
theorem views_nro : Views (nro v C l) (nro v C l) false := views_free free_nro
theorem views_nrow : Views (nrow v C l) (nro v C l) true := fun w o m oc j h1 h2 ⟨lg, e, a, b⟩ =>
  ⟨lg, e, (RowIs.slice (B := fun b => o b = .mine m) (fun _ hb => hb) a).keep (Nat.le_refl _) (fun b hlt hb => ⟨h2 rfl b hlt hb, rfl⟩), fun p hp => (b p hp).free (C.free _ _) h1⟩
theorem views_look {h : HA} {h' : HA} (hv : Views h' h false) : Views h' h true := fun w o m oc j h1 _ => hv w o m oc j h1 (by simp)
theorem freezeN (m : Nat) (hm : H[m]? = some (nrow v C l)) : Turn H (H.set m (nro v C l)) :=
  turn_give hm fun w o ⟨lg, e, a, b⟩ => ⟨lg, e, SliceIs.keep (Nat.le_refl _) (fun _ _ hb => ⟨giveUp_mine hb, rfl⟩) (RowIs.slice (fun _ hb => hb) a),
    fun p hp => (b p hp).free (C.free _ _) (fun b _ hb => by simp [giveUp, hb, dropO])⟩
theorem nilrowN (C : NC α) : Turn H (H ++ [nrow (.slice none 0 0) C []]) := turn_add fun _ _ _ => ⟨[], rfl, .inl ⟨⟨none, rfl⟩, rfl⟩, fun p hp => by simp at hp⟩
theorem nilroN (C : NC α) : Turn H (H ++ [nro (.slice none 0 0) C []]) := turn_add fun _ _ _ => ⟨[], rfl, ⟨none, 0, rfl, Nat.le_refl _, Nat.zero_le _, fun _ => rfl, fun i c hi => by simp [NC.cs] at hi⟩, fun p hp => by simp at hp⟩
theorem nil_ro {w : World} {o : Own} {k : Nat} (es : Nat) : (ro (.slice none 0 0) es []).p w o k := ⟨none, 0, rfl, Nat.le_refl _, Nat.zero_le _, fun _ => rfl, fun i c hi => by simp at hi⟩
theorem nil_nro {w : World} {o : Own} {k : Nat} (C : NC α) : (nro (.slice none 0 0) C []).p w o k := ⟨[], rfl, ⟨none, 0, rfl, Nat.le_refl _, Nat.zero_le _, fun _ => rfl, fun i c hi => by simp [NC.cs] at hi⟩, fun p hp => by simp at hp⟩

/-- whatever can be read as a slice of n elements -/
structure ReadsN (h : HA) (v : Value) (es n : Nat) : Prop where
  is : ∀ w o k, h.p w o k → ∃ a cap, v = .slice a n cap ∧ n ≤ cap ∧ cap ≤ maxLen ∧ (a = none → cap = 0) ∧ (0 < n → ∃ b off, a = some ⟨b, off, none⟩)
theorem SliceIs.readsN {w : World} {B : Nat → Prop} {es : Nat} {cells : List (List Value)} (h : SliceIs w B v es cells) : ∃ a cap, v = .slice a cells.length cap ∧ cells.length ≤ cap ∧ cap ≤ maxLen ∧ (a = none → cap = 0) ∧ (0 < cells.length → ∃ b off, a = some ⟨b, off, none⟩) := by
  obtain ⟨a, cap, e1, e2, e3, e4, e5⟩ := h
  refine ⟨a, cap, e1, e2, e3, e4, fun h0 => ?_⟩
  obtain ⟨_, b, off, e6, _⟩ := e5 0 _ (List.getElem?_eq_getElem h0)
  exact ⟨b, off, e6⟩
theorem readsN_ro : ReadsN (nro v C l) v C.es l.length := ⟨fun w o k ⟨lg, e, a, _⟩ => by have := a.readsN; rwa [NC.cs_len e] at this⟩
theorem readsN_row : ReadsN (nrow v C l) v C.es l.length := ⟨fun w o k ⟨lg, e, a, _⟩ => by have := (RowIs.slice (B := fun b => o b = .mine k) (fun _ hb => hb) a).readsN; rwa [NC.cs_len e] at this⟩
end

/-! facts with a witness -/
def ExT {γ : Type} (H : List HA) (K : γ → List HA) : Prop := ∀ w o, Bnd w o → Sats w o H → ∃ g, Sats w o (H ++ K g)
theorem Rel.ex {γ : Type} {K : γ → List HA} (h : ExT H K) {a : Act} {w : World} (r : Rel E V H a w) : ∃ g, Rel E V (H ++ K g) a w := by
  obtain ⟨h1, h2, h3, o, hb, ht, hs⟩ := r
  obtain ⟨g, hg⟩ := h w o hb hs
  exact ⟨g, h1, h2, h3, o, hb, ht, hg⟩
section
variable {γ : Type} {K : γ → List HA} {ops : Array Oper} {listed : Array Bool} {fuel : Nat} {Hs : List HA}
theorem run_ex {c : Code} (h : ExT H K) (hk : ∀ g, Run E c k V (H ++ K g)) : Run E c k V H := fun a w r => let ⟨g, r'⟩ := r.ex h; hk g a w r'
theorem goes_ex (h : ExT H K) (hk : ∀ g, Goes E k V (H ++ K g)) : Goes E k V H := fun a w r => let ⟨g, r'⟩ := r.ex h; hk g a w r'
theorem fin_ex (h : ExT H K) (hk : ∀ g, Fin E V (H ++ K g)) : Fin E V H := fun a w r => let ⟨g, r'⟩ := r.ex h; hk g a w r'
theorem ops_ex {l : List Oper} (h : ExT H K) (hk : ∀ g, Ops E ops l k V (H ++ K g)) : Ops E ops l k V H := fun a w r => let ⟨g, r'⟩ := r.ex h; hk g a w r'
theorem still_ex {l : List Oper} (h : ExT H K) (hk : ∀ g, StillL E ops l k V (H ++ K g)) : StillL E ops l k V H := fun a w r => let ⟨g, r'⟩ := r.ex h; hk g a w r'
theorem any_ex (h : ExT H K) (hk : ∀ g, AnyL E ops listed fuel k V (H ++ K g) Hs) : AnyL E ops listed fuel k V H Hs := fun a w r => let ⟨g, r'⟩ := r.ex h; hk g a w r'
theorem anyo_ex {i : Nat} (h : ExT H K) (hk : ∀ g, AnyO E ops listed fuel k V (H ++ K g) Hs i) : AnyO E ops listed fuel k V H Hs i := fun a w r => let ⟨g, r'⟩ := r.ex h; hk g a w r'
end
theorem sats_append {w : World} {o : Own} {K : List HA} (hK : ∀ h ∈ K, Free h) (hs : Sats w o H) (k0 : Nat) (h : HsP K w o k0) : Sats w o (H ++ K) := by
  intro j x hj
  rw [List.getElem?_append] at hj
  split at hj
  · exact hs j x hj
  · have hm := List.mem_of_getElem? hj
    exact (hK x hm).at w o k0 j (h x hm)

/-! an element of a slice that nobody writes -/
def atc (v : Value) (n : Nat) (cs : List Value) : HA :=
  ⟨fun w o _ => ∃ b off len cap, v = .slice (some ⟨b, off, none⟩) len cap ∧ b < w.heap.size ∧ o b = .no ∧ ∀ (j : Nat) (x : Value), cs[j]? = some x → w.cell? ⟨b, off + n + j, none⟩ = some x,
   fun hs _ h2 ⟨b, off, len, cap, e1, e2, e3, e4⟩ => let ⟨f1, f2⟩ := h2 b e2 e3; ⟨b, off, len, cap, e1, Nat.lt_of_lt_of_le e2 hs, f1, fun j x hj => by rw [cell_of_block f2]; exact e4 j x hj⟩⟩
theorem free_atc {v : Value} {n : Nat} {cs : List Value} : Free (atc v n cs) := fun w o o' k k' ho ⟨b, off, len, cap, e1, e2, e3, e4⟩ => ⟨b, off, len, cap, e1, e2, ho b e2 e3, e4⟩
section
variable {α : Type} {C : NC α} {v : Value} {l : List α}
theorem nget {G : Type} {lg : List (α × G)} {i : Nat} {x : α} (hl : l = lg.map (·.1)) (hx : l[i]? = some x) : ∃ g, lg[i]? = some (x, g) := by
  subst hl
  rw [List.getElem?_map] at hx
  cases h : lg[i]? with
  | none => rw [h] at hx; simp at hx
  | some p => rw [h] at hx; simp at hx; exact ⟨p.2, by rw [← hx]⟩
theorem cs_get {lg : List (α × C.G)} {i : Nat} {x : α} {g : C.G} (h : lg[i]? = some (x, g)) : (C.cs lg)[i]? = some (C.F x g) := by simp [NC.cs, h]
/-- what an element's cells hold, and what is behind them -/
theorem exAt {i : Nat} {x : α} (m : Nat) (hm : H[m]? = some (nro v C l)) (hx : l[i]? = some x) : ExT H (fun g : C.G => atc v (i * C.es) (C.F x g) :: C.S x g) := by
  intro w o hb hs
  obtain ⟨lg, e, ha, hS⟩ := hs m _ hm
  obtain ⟨g, hg⟩ := nget e hx
  obtain ⟨a, cap, g1, _, _, _, hc⟩ := id ha
  obtain ⟨_, b, off, f1, f2, f3, f4⟩ := hc i _ (cs_get hg)
  refine ⟨g, sats_append (k0 := m) ?_ hs ?_⟩
  · intro h hh
    rcases List.mem_cons.1 hh with rfl | hh
    · exact free_atc
    · exact C.free _ _ h hh
  · intro h hh
    rcases List.mem_cons.1 hh with rfl | hh
    · exact ⟨b, off, _, _, by rw [g1, f1], f2, f3, f4⟩
    · exact hS _ (List.mem_of_getElem? hg) h hh
section
variable {P : Program} {d : Option Nat} {ty : TypeId} {pos : String} {af : Array Edge} {g : Option (Nat × Bool)}
theorem y_load_at {T : TypeId} {x : Operand} {r : Value} {n j : Nat} {cs : List Value} (m : Nat) (ha : ∀ w, (isAgg T).run P w = .ok false w) (hx : V.ev x = some (elemP v (n + j))) (hm : H[m]? = some (atc v n cs)) (hc : cs[j]? = some r) :
    OpY P ⟨d, .load T x, ty, pos, af, g⟩ V H r := by
  intro ρ w o hf _ hs
  obtain ⟨b, off, len, cap, e1, _, _, e4⟩ := hs m _ hm
  have := e4 j r hc
  subst e1
  simp [execOp, hf x _ hx, Instr.loadAt, Instr.sureAddr, elemP, Value.sbase, loadVar, ha]
  rw [show off + (n + j) = off + n + j by omega]
  simp [this]
theorem y_load_atagg {T : TypeId} {x : Operand} {n j : Nat} {c cs : List Value} (m : Nat) (ha : ∀ w, (isAgg T).run P w = .ok true w) (hz : ∀ w, (sizeOf T).run P w = .ok c.length w) (hx : V.ev x = some (elemP v (n + j))) (hm : H[m]? = some (atc v n cs))
    (hc : (cs.drop j).take c.length = c) : OpY P ⟨d, .load T x, ty, pos, af, g⟩ V H (.agg c.toArray) := by
  intro ρ w o hf _ hs
  obtain ⟨b, off, len, cap, e1, _, _, e4⟩ := hs m _ hm
  subst e1
  have := run_loadCells (P := P) (w := w) b (off + n + j) c (fun i y hi => by
    rw [← hc, List.getElem?_take] at hi
    split at hi
    · rw [List.getElem?_drop] at hi
      have := e4 _ y hi
      rwa [show off + n + (j + i) = off + n + j + i by omega] at this
    · simp at hi)
  rw [show off + n + j = off + (n + j) by omega] at this
  simp [execOp, hf x _ hx, Instr.loadAt, Instr.sureAddr, elemP, Value.sbase, loadVar, ha, hz, this]
theorem elemP_zero {n : Nat} : elemP v n = elemP v (n + 0) := rfl
theorem y_lenN {Ts : Array TypeId} {T el : TypeId} {x : Operand} {es n : Nat} {h : HA} (m : Nat) (hT : Ts[0]? = some T) (hu : ∀ w, (underlying T).run P w = .ok (.slice el) w)
    (hx : V.ev x = some v) (hm : H[m]? = some h) (hr : ReadsN h v es n) : OpY P ⟨d, .call ⟨.builtin .len, #[x], Ts⟩, ty, pos, af, g⟩ V H (.int .i64 n) := by
  intro ρ w o hf _ hs
  obtain ⟨a, cap, e1, _⟩ := hr.is w o m (hs m h hm)
  subst e1
  simp [execOp, resolve, invoke, builtin, hf x _ hx, run_len hT hu]
theorem y_indexAddrN {T el : TypeId} {x y : Operand} {kd : IntKind} {i : Int} {es n : Nat} {h : HA} (m : Nat) (hu : ∀ w, (underlying T).run P w = .ok (.slice el) w)
    (hz : ∀ w, (sizeOf el).run P w = .ok es w) (hx : V.ev x = some v) (hy : V.ev y = some (.int kd i)) (hm : H[m]? = some h) (hr : ReadsN h v es n) (h0 : 0 ≤ i) (hn : i.toNat < n) :
    OpY P ⟨d, .indexAddr T x y, ty, pos, af, g⟩ V H (elemP v (i.toNat * es)) := by
  intro ρ w o hf _ hs
  obtain ⟨a, cap, e1, _, _, _, e5⟩ := hr.is w o m (hs m h hm)
  obtain ⟨b, off, rfl⟩ := e5 (by omega)
  subst e1
  obtain ⟨q, rfl⟩ : ∃ q : Nat, i = q := ⟨i.toNat, by omega⟩
  simp only [Int.toNat_natCast] at hn ⊢
  have ha : (Addr.add ⟨b, off, none⟩ (q * es)) = ⟨b, off + q * es, none⟩ := by
    unfold Addr.add; split
    · rename_i h0; rw [h0]; rfl
    · rfl
  simp [execOp, hf x _ hx, hf y _ hy, Instr.indexAt, asIntOf, hu, hz, elemP, Value.sbase, ha, hn]
theorem y_sliceN {T el : TypeId} {x : Operand} {lo hi : Option Operand} {es n : Nat} {l r : Int} {h : HA} (m : Nat) (hu : ∀ w, (underlying T).run P w = .ok (.slice el) w)
    (hz : ∀ w, (sizeOf el).run P w = .ok es w) (hx : V.ev x = some v) (hm : H[m]? = some h) (hr' : ReadsN h v es n) (hl : Bi V lo 0 l) (hr : Bi V hi n r) (h0 : 0 ≤ l) (h1 : l ≤ r) (h2 : r ≤ (n : Int)) :
    OpY P ⟨d, .slice T x lo hi none, ty, pos, af, g⟩ V H (subS v es l.toNat r.toNat) := by
  intro ρ w o hf hbd hs
  obtain ⟨a, cap, e1, e2, e3, e4, e5⟩ := hr'.is w o m (hs m h hm)
  subst e1
  have hrun := run_slice (P := P) (T := T) (w := w) (a := a) (mx := none) hu hz hf (hl.bd h0) (hr.bd (by omega)) rfl (by omega) (by omega) e2
  simp only [Option.map_none] at hrun
  simp [execOp, hf x _ hx, hrun, subS]
/-- an element of a row of our own is read: what is behind it comes along -/
theorem t_loadN {T : TypeId} {x : Operand} {i : Nat} {y : α} (m : Nat) (ha : ∀ w, (isAgg T).run P w = .ok true w) (hz : ∀ w, (sizeOf T).run P w = .ok C.es w) (hx : V.ev x = some (elemP v (i * C.es))) (hm : H[m]? = some (nrow v C l)) (hy : l[i]? = some y) :
    OpT P ⟨d, .load T x, ty, pos, af, g⟩ V H (fun v' H' => ∃ g, v' = .agg (C.F y g).toArray ∧ H' = H ++ C.S y g) := by
  intro ρ w o hf hbd hs
  obtain ⟨lg, e, hr, hS⟩ := hs m _ hm
  obtain ⟨g, hg⟩ := nget e hy
  have h1 := (RowIs.slice (B := fun b => o b = .mine m) (fun _ hb => hb) hr).elem (cs_get hg)
  obtain ⟨e0, b, off, cap, e1, e2⟩ := h1
  have hl := run_loadCells (P := P) (w := w) b (off + i * C.es) (C.F y g) e2
  rw [e0] at hl
  have hrun : (execOp ρ ⟨d, .load T x, ty, pos, af, ‹_›⟩).run P w = .ok (.value (.agg (C.F y g).toArray)) w := by
    subst e1
    simp [execOp, hf x _ hx, Instr.loadAt, Instr.sureAddr, elemP, Value.sbase, loadVar, ha, hz, hl]
  unfold Does
  rw [hrun]
  exact ⟨_, o, ⟨g, rfl, rfl⟩, hbd, Tr.refl w o, sats_append (C.free _ _) hs m (hS _ (List.mem_of_getElem? hg))⟩
theorem t_loadNf {T : TypeId} {x : Operand} {i j : Nat} {y : α} (m : Nat) (r : C.G → Value) (ha : ∀ w, (isAgg T).run P w = .ok false w) (hx : V.ev x = some (elemP v (i * C.es + j))) (hm : H[m]? = some (nrow v C l)) (hy : l[i]? = some y) (hr : ∀ g, (C.F y g)[j]? = some (r g)) :
    OpT P ⟨d, .load T x, ty, pos, af, g⟩ V H (fun v' H' => ∃ g, v' = r g ∧ H' = H ++ C.S y g) := by
  intro ρ w o hf hbd hs
  obtain ⟨lg, e, hro, hS⟩ := hs m _ hm
  obtain ⟨g, hg⟩ := nget e hy
  obtain ⟨e0, b, off, cap, e1, e2⟩ := (RowIs.slice (B := fun b => o b = .mine m) (fun _ hb => hb) hro).elem (cs_get hg)
  have hl := e2 j (r g) (hr g)
  have hrun : (execOp ρ ⟨d, .load T x, ty, pos, af, ‹_›⟩).run P w = .ok (.value (r g)) w := by
    subst e1
    simp [execOp, hf x _ hx, Instr.loadAt, Instr.sureAddr, elemP, Value.sbase, loadVar, ha]
    rw [show off + (i * C.es + j) = off + i * C.es + j by omega]
    simp [hl]
  unfold Does
  rw [hrun]
  exact ⟨_, o, ⟨g, rfl, rfl⟩, hbd, Tr.refl w o, sats_append (C.free _ _) hs m (hS _ (List.mem_of_getElem? hg))⟩

/-! what is behind a list of elements is known -/
def Has (H L : List HA) : Prop := ∀ h ∈ L, (∀ w o k, h.p w o k) ∨ ∃ j : Nat, H[j]? = some h
theorem has_nil : Has H [] := fun h hh => by simp at hh
theorem has_cons {h : HA} {L : List HA} (j : Nat) (hj : H[j]? = some h) (r : Has H L) : Has H (h :: L) := fun x hx => by
  rcases List.mem_cons.1 hx with rfl | hx
  · exact .inr ⟨j, hj⟩
  · exact r x hx
theorem has_true {h : HA} {L : List HA} (ht : ∀ w o k, h.p w o k) (r : Has H L) : Has H (h :: L) := fun x hx => by
  rcases List.mem_cons.1 hx with rfl | hx
  · exact .inl ht
  · exact r x hx
theorem Has.sat {L : List HA} (hL : ∀ h ∈ L, Free h) (h : Has H L) {w : World} {o : Own} (hs : Sats w o H) (k : Nat) : HsP L w o k := fun x hx => by
  rcases h x hx with ht | ⟨j, hj⟩
  · exact ht w o k
  · exact (hL x hx).at w o j k (hs j x hj)
def HasAll (H : List HA) (C : NC α) (lg : List (α × C.G)) : Prop := ∀ p ∈ lg, Has H (C.S p.1 p.2)
theorem hasall_nil : HasAll H C [] := fun p hp => by simp at hp
theorem hasall_cons {x : α} {g : C.G} {lg : List (α × C.G)} (h : Has H (C.S x g)) (r : HasAll H C lg) : HasAll H C ((x, g) :: lg) := fun p hp => by
  rcases List.mem_cons.1 hp with rfl | hp
  · exact h
  · exact r p hp
theorem turn_closeR (m : Nat) (lg : List (α × C.G)) {cells : List (List Value)} (hm : H[m]? = some (row v C.es cells)) (hc : cells = C.cs lg) (hl : l = lg.map (·.1)) (hS : HasAll H C lg) : Turn H (H.set m (nrow v C l)) := by
  intro w o hb hs
  exact ⟨o, hb, Tr.refl w o, sats_upd (Nat.le_refl _) (fun _ _ _ => ⟨rfl, rfl⟩) hs ⟨lg, hl, hc ▸ hs m _ hm, fun p hp => (hS p hp).sat (C.free _ _) hs m⟩⟩
theorem turn_openR (m : Nat) (hm : H[m]? = some (nrow v C l)) : ∀ w o, Sats w o H → ∃ lg : List (α × C.G), l = lg.map (·.1) ∧ Sats w o (H.set m (row v C.es (C.cs lg))) ∧ ∀ p ∈ lg, HsP (C.S p.1 p.2) w o m :=
  fun w o hs => let ⟨lg, e, a, b⟩ := hs m _ hm; ⟨lg, e, sats_upd (Nat.le_refl _) (fun _ _ _ => ⟨rfl, rfl⟩) hs a, b⟩
theorem turn_subN (m : Nat) {a b : Nat} (hm : H[m]? = some (nro v C l)) (h1 : a ≤ b) (h2 : b ≤ l.length) : Turn H (H ++ [nro (subS v C.es a b) C ((l.take b).drop a)]) :=
  turn_add fun w o hs => by
    obtain ⟨lg, e, ha, hS⟩ := hs m _ hm
    have hlen := NC.cs_len (C := C) e
    obtain ⟨a', cap, e1, e2, e3, e4, e5⟩ := id ha
    refine ⟨(lg.take b).drop a, by rw [e, List.map_drop, List.map_take], ?_, fun p hp => (hS p (List.mem_of_mem_take (List.mem_of_mem_drop hp))).free (C.free _ _) (fun _ _ h => h)⟩
    have e6 : C.cs ((lg.take b).drop a) = ((C.cs lg).take b).drop a := by simp [NC.cs, List.map_drop, List.map_take]
    rw [e6]
    subst e1
    exact SliceIs.sub ha h1 (by omega) (by omega) (Nat.le_refl _)
theorem turn_subrowN (m : Nat) {a b : Nat} (hm : H[m]? = some (nrow v C l)) (h1 : a ≤ b) (h2 : b ≤ l.length) : Turn H (H.set m (nrow (subS v C.es a b) C ((l.take b).drop a))) :=
  fun w o hb hs => ⟨o, hb, Tr.refl w o, sats_upd (Nat.le_refl _) (fun _ _ _ => ⟨rfl, rfl⟩) hs (by
    obtain ⟨lg, e, ha, hS⟩ := hs m _ hm
    have hlen := NC.cs_len (C := C) e
    refine ⟨(lg.take b).drop a, by rw [e, List.map_drop, List.map_take], ?_, fun p hp => hS p (List.mem_of_mem_take (List.mem_of_mem_drop hp))⟩
    have e6 : C.cs ((lg.take b).drop a) = ((C.cs lg).take b).drop a := by simp [NC.cs, List.map_drop, List.map_take]
    rw [e6]
    exact RowIs.sub ha h1 (by omega))⟩

/-! writes -/
theorem Free.tr {h : HA} (hF : Free h) {w w' : World} {o o' : Own} (ht : Tr w o w' o') (k0 k1 : Nat) (hh : h.p w o k0) : h.p w' o' k1 :=
  (hF.at w' o' 0 k1) (HA.keep h ht.size (k := k0) (k' := 0) (o := fun b => match o b with | .no => .no | _ => .far) (o' := o') (fun b _ hb => by split at hb <;> cases hb) (fun b hlt hb => ht.no b hlt (by
    split at hb
    · assumption
    · cases hb)) (hF w o _ k0 k0 (fun b _ hb => by simp [hb]) hh))
theorem HsP.tr {L : List HA} (hL : ∀ h ∈ L, Free h) {w w' : World} {o o' : Own} (ht : Tr w o w' o') {k0 : Nat} (k1 : Nat) (h : HsP L w o k0) : HsP L w' o' k1 := fun x hx => (hL x hx).tr ht k0 k1 (h x hx)
theorem sats_back {w : World} {o : Own} {m : Nat} {g g0 : HA} (hm : H[m]? = some g) (hs : Sats w o (H.set m g0)) (hg : g.p w o m) : Sats w o H := by
  have := sats_upd (w := w) (w' := w) (o := o) (o' := o) (m := m) (g := g) (Nat.le_refl _) (fun b _ _ => ⟨rfl, rfl⟩) hs hg
  rw [List.set_set] at this
  have e : H.set m g = H := by
    apply List.ext_getElem?
    intro j
    by_cases h : m = j
    · subst h; rw [List.getElem?_set_self (List.getElem?_eq_some_iff.1 hm).1, hm]
    · rw [List.getElem?_set_ne h]
  rwa [e] at this
theorem Does.imp {P : Program} {s : Sem Next} {w : World} {D D' : Value → World → Prop} (h : Does P s w D) (hd : ∀ v w', D v w' → D' v w') : Does P s w D' := by
  unfold Does at h ⊢
  generalize s.run P w = x at *
  cases x with
  | halt x w' => simp at h
  | ok nx w' =>
    cases nx <;> simp only [] at h ⊢
    case value v => exact hd _ _ h
    case skip => exact hd _ _ h
    case enter f args => exact h.mono fun e w'' ⟨v, e1, h1⟩ => ⟨v, e1, hd _ _ h1⟩
/-- from a rule about the row opened -/
theorem OpT.openN {op : Oper} {post : Post} (m : Nat) (hm : H[m]? = some (nrow v C l))
    (h : ∀ (lg : List (α × C.G)) w o, l = lg.map (·.1) → (∀ p ∈ lg, HsP (C.S p.1 p.2) w o m) → Sats w o H → OpT P op V (H.set m (row v C.es (C.cs lg))) (fun v' H' => ∃ (v2 : Value) (lg2 : List (α × C.G)), H' = H.set m (row v2 C.es (C.cs lg2)) ∧
      (∀ p ∈ lg2, HsP (C.S p.1 p.2) w o m) ∧ post v' (H.set m (nrow v2 C (lg2.map (·.1)))))) : OpT P op V H post := by
  intro ρ w o hf hbd hs
  obtain ⟨lg, e, hs', hS⟩ := turn_openR m hm w o hs
  refine (h lg w o e hS hs ρ w o hf hbd hs').imp ?_
  rintro v' w' ⟨H', o', ⟨v2, lg2, rfl, hp, hpost⟩, hb', ht, hs2⟩
  have hmlt : m < H.length := (List.getElem?_eq_some_iff.1 hm).1
  refine ⟨_, o', hpost, hb', ht, ?_⟩
  have := sats_upd (w := w') (w' := w') (o := o') (o' := o') (m := m) (g := nrow v2 C (lg2.map (·.1))) (Nat.le_refl _) (fun b _ _ => ⟨rfl, rfl⟩) hs2 ⟨lg2, rfl, hs2 m (row v2 C.es (C.cs lg2)) (by simp [hmlt]), fun p hp' => (hp p hp').tr (C.free _ _) ht m⟩
  rwa [List.set_set] at this
/-- what is put behind a slice of such elements -/
structure SrcN (H : List HA) (m2 : Nat) (v2 : Value) (C : NC α) (l2 : List α) : Prop where
  is : ∃ g, H[m2]? = some g ∧ ∀ w o, g.p w o m2 → ∃ (lg2 : List (α × C.G)) (X : HA), l2 = lg2.map (·.1) ∧ X.p w o m2 ∧ Reads X v2 C.es (C.cs lg2) ∧ (∀ p ∈ lg2, HsP (C.S p.1 p.2) w o m2) ∧ ∀ w' o', Tr w o w' o' → X.p w' o' m2 → g.p w' o' m2
theorem srcN_ro {v2 : Value} {l2 : List α} (m2 : Nat) (h : H[m2]? = some (nro v2 C l2)) : SrcN H m2 v2 C l2 :=
  ⟨_, h, fun w o ⟨lg, e, a, b⟩ => ⟨lg, ro v2 C.es (C.cs lg), e, a, reads_ro, b, fun w' o' ht hX => ⟨lg, e, hX, fun p hp => (b p hp).tr (C.free _ _) ht m2⟩⟩⟩
theorem srcN_row {v2 : Value} {l2 : List α} (m2 : Nat) (h : H[m2]? = some (nrow v2 C l2)) : SrcN H m2 v2 C l2 :=
  ⟨_, h, fun w o ⟨lg, e, a, b⟩ => ⟨lg, row v2 C.es (C.cs lg), e, a, reads_row, b, fun w' o' ht hX => ⟨lg, e, hX, fun p hp => (b p hp).tr (C.free _ _) ht m2⟩⟩⟩
theorem set_comm2 {m m2 : Nat} (hne : m ≠ m2) (a b c g : HA) (hg : H[m2]? = some g) : (((H.set m a).set m2 b).set m c).set m2 g = H.set m c := by
  apply List.ext_getElem?
  intro j
  have hlt : m2 < H.length := (List.getElem?_eq_some_iff.1 hg).1
  by_cases h2 : m2 = j
  · subst h2
    rw [List.getElem?_set_self (by simpa using hlt), List.getElem?_set_ne hne, hg]
  · rw [List.getElem?_set_ne h2]
    by_cases h1 : m = j
    · subst h1
      by_cases hl : m < H.length
      · rw [List.getElem?_set_self (by simpa using hl), List.getElem?_set_self hl]
      · rw [List.getElem?_eq_none (by simp; omega), List.getElem?_eq_none (by simp; omega)]
    · rw [List.getElem?_set_ne h1, List.getElem?_set_ne h2, List.getElem?_set_ne h1, List.getElem?_set_ne h1]
theorem t_appendN {Ts : Array TypeId} {T T2 el e2 : TypeId} {x y : Operand} {v vy z : Value} {ti : TypeInfo} {l2 : List α} (m m2 : Nat) (hne : m ≠ m2)
    (hT : Ts[0]? = some T) (hu : ∀ w, (underlying T).run P w = .ok (.slice el) w) (hT2 : Ts[1]? = some T2) (hu2 : ∀ w, (underlying T2).run P w = .ok (.slice e2) w)
    (hti : ∀ w, (typeInfo el).run P w = .ok ti w) (hes : ti.size = C.es) (hby : ti.bytes ≠ 0) (hb2 : ti.bytes ≤ 16384) (h0 : ∀ w, (zeroValue el).run P w = .ok z w) (hzs : z.cells.size = C.es)
    (hx : V.ev x = some v) (hm : H[m]? = some (nrow v C l)) (hy : V.ev y = some vy) (hsrc : SrcN H m2 vy C l2) (hlen : l.length + l2.length ≤ 4294967296) :
    OpT P ⟨d, .call ⟨.builtin .append, #[x, y], Ts⟩, ty, pos, af, g⟩ V H (fun v' H' => H' = H.set m (nrow v' C (l ++ l2))) := by
  obtain ⟨g2, hg2, hsrc⟩ := hsrc
  intro ρ w o hf hbd hs
  obtain ⟨lg, e, hs', hS⟩ := turn_openR m hm w o hs
  obtain ⟨lg2, X, f1, f2, f3, f4, f5⟩ := hsrc w o (hs m2 _ hg2)
  have hmlt : m < H.length := (List.getElem?_eq_some_iff.1 hm).1
  have hmlt2 : m2 < H.length := (List.getElem?_eq_some_iff.1 hg2).1
  have hs2 : Sats w o ((H.set m (row v C.es (C.cs lg))).set m2 X) := sats_upd (Nat.le_refl _) (fun b _ _ => ⟨rfl, rfl⟩) hs' f2
  have hl1 := NC.cs_len (C := C) e
  have hl2 := NC.cs_len (C := C) f1
  have hok2 : ∀ c ∈ C.cs lg2, c.length = C.es ∧ ∀ u ∈ c, u.oneCell' = true := by
    intro c hc
    obtain ⟨p, hp, rfl⟩ := List.mem_map.1 hc
    exact C.ok _ _ w o m2 (f4 p hp)
  have hroom := map_room (F := fun _ => ([] : List Value)) (l := l) (m := l2) (b := ti.bytes) hlen hb2
  simp only [List.length_map] at hroom
  have := t_append (d := d) (ty := ty) (pos := pos) (af := af) (g := g) (P := P) (V := V) (H := (H.set m (row v C.es (C.cs lg))).set m2 X) (x := x) (y := y) (es := C.es) (new := C.cs lg2) m hT hu hT2 hu2 (.inr ⟨_, rfl⟩) hti hes hby h0 hzs hx
    (by rw [List.getElem?_set_ne (Ne.symm hne), List.getElem?_set_self hmlt]) hy (src_reads m2 (by rw [List.getElem?_set_self (by simpa using hmlt2)]) f3 hok2) (by rw [hl1, hl2]; exact hroom) (by rw [hl1, hl2]; unfold maxLen; omega)
  refine (this ρ w o hf hbd hs2).imp ?_
  rintro v' w' ⟨H', o', rfl, hb', ht, hs3⟩
  refine ⟨_, o', rfl, hb', ht, ?_⟩
  have h4 := sats_upd (w := w') (w' := w') (o := o') (o' := o') (m := m2) (g := g2) (Nat.le_refl _) (fun b _ _ => ⟨rfl, rfl⟩) hs3 (f5 w' o' ht (hs3 m2 _ (by rw [List.getElem?_set_ne hne, List.getElem?_set_self (by simpa using hmlt2)])))
  rw [set_comm2 hne _ _ _ _ hg2] at h4
  have h5 := sats_upd (w := w') (w' := w') (o := o') (o' := o') (m := m) (g := nrow v' C (l ++ l2)) (Nat.le_refl _) (fun b _ _ => ⟨rfl, rfl⟩) h4 ⟨lg ++ lg2, by rw [e, f1, List.map_append], by
      have h6 := h4 m _ (List.getElem?_set_self hmlt)
      have e6 : C.cs (lg ++ lg2) = C.cs lg ++ C.cs lg2 := by simp [NC.cs]
      rw [e6]; exact h6, fun p hp => by
      rcases List.mem_append.1 hp with hp | hp
      · exact (hS p hp).tr (C.free _ _) ht m
      · exact (f4 p hp).tr (C.free _ _) ht m⟩
  rwa [List.set_set] at h5
theorem t_appendN0 {Ts : Array TypeId} {T T2 el e2 : TypeId} {x y : Operand} {v z : Value} {ti : TypeInfo} (m : Nat)
    (hT : Ts[0]? = some T) (hu : ∀ w, (underlying T).run P w = .ok (.slice el) w) (hT2 : Ts[1]? = some T2) (hu2 : ∀ w, (underlying T2).run P w = .ok (.slice e2) w)
    (hti : ∀ w, (typeInfo el).run P w = .ok ti w) (hes : ti.size = C.es) (hby : ti.bytes ≠ 0) (hb2 : ti.bytes ≤ 16384) (h0 : ∀ w, (zeroValue el).run P w = .ok z w) (hzs : z.cells.size = C.es)
    (hx : V.ev x = some v) (hm : H[m]? = some (nrow v C l)) (hy : V.ev y = some (.slice none 0 0)) (hlen : l.length ≤ 4294967296) :
    OpT P ⟨d, .call ⟨.builtin .append, #[x, y], Ts⟩, ty, pos, af, g⟩ V H (fun v' H' => H' = H.set m (nrow v' C l)) := by
  have hroom := map_room (F := fun _ => ([] : List Value)) (l := l) (m := []) (b := ti.bytes) (by simpa using hlen) hb2
  simp only [List.length_map, List.length_nil, Nat.add_zero] at hroom
  refine OpT.openN m hm fun lg w o e hS' hs => ?_
  have hl1 := NC.cs_len (C := C) e
  have hmlt : m < H.length := (List.getElem?_eq_some_iff.1 hm).1
  have := t_append (d := d) (ty := ty) (pos := pos) (af := af) (g := g) (P := P) (V := V) (H := H.set m (row v C.es (C.cs lg))) (x := x) (y := y) (es := C.es) (new := []) m hT hu hT2 hu2 (.inr ⟨_, rfl⟩) hti hes hby h0 hzs hx
    (List.getElem?_set_self hmlt) hy src_nil (by rw [hl1]; simpa using hroom) (by rw [hl1]; simp; unfold maxLen; omega)
  intro ρ w1 o1 hf hb hs1
  refine (this ρ w1 o1 hf hb hs1).imp ?_
  rintro v' w' ⟨H', o', rfl, r1⟩
  refine ⟨_, o', ⟨v', lg, ?_, hS', by rw [← e]⟩, r1⟩
  rw [List.set_set]; simp
/-- an element -/
theorem t_storeN {T : TypeId} {x y : Operand} {i : Nat} {a b : α} {gb : C.G} {r : Value} (m : Nat) (hz : ∀ w, (sizeOf T).run P w = .ok C.es w) (hx : V.ev x = some (elemP v (i * C.es))) (hy : V.ev y = some r) (hr : r.cells.toList = C.F b gb)
    (hm : H[m]? = some (nrow v C l)) (ha : l[i]? = some a) (hS : Has H (C.S b gb)) :
    OpT P ⟨d, .store T x y, ty, pos, af, g⟩ V H (fun v' H' => v' = undef ∧ H' = H.set m (nrow v C (l.set i b))) := by
  refine OpT.openN m hm fun lg w o e hS' hs => ?_
  obtain ⟨ga, hg⟩ := nget e ha
  have hsb : HsP (C.S b gb) w o m := hS.sat (C.free _ _) hs m
  obtain ⟨ho1, ho2⟩ := C.ok b gb w o m hsb
  obtain ⟨hb1, hb2⟩ := C.ok a ga w o m (hS' _ (List.mem_of_getElem? hg))
  have hmlt : m < H.length := (List.getElem?_eq_some_iff.1 hm).1
  have := t_store_row (d := d) (ty := ty) (pos := pos) (af := af) (g := g) (P := P) (V := V) (H := H.set m (row v C.es (C.cs lg))) (i := i) (j := 0) (n := C.es) (c := C.F a ga) (r := r) m hz hx hy (by simp [hmlt]) (by rw [← Array.length_toList, hr, ho1]) (cs_get hg) (by simp) (by rw [hr]; exact ho2)
  intro ρ w1 o1 hf hb hs1
  refine (this ρ w1 o1 hf hb hs1).imp ?_
  rintro v' w' ⟨H', o', ⟨rfl, rfl⟩, r1⟩
  refine ⟨_, o', ⟨v, lg.set i (b, gb), ?_, ?_, rfl, ?_⟩, r1⟩
  · rw [List.set_set, hr, writeAt_all _ _ (by omega)]; simp [NC.cs, List.map_set]
  · intro p hp
    rcases List.mem_or_eq_of_mem_set hp with h | rfl
    · exact hS' p h
    · exact hsb
  · simp [List.map_set, e]
/-- a part of an element -/
theorem t_storeNf {T : TypeId} {x y : Operand} {r : Value} {i j n : Nat} {a b : α} (m : Nat) (up : C.G → C.G) (L : List HA) (hz : ∀ w, (sizeOf T).run P w = .ok n w) (hx : V.ev x = some (elemP v (i * C.es + j))) (hy : V.ev y = some r) (hn : r.cells.size = n) (h1 : ∀ u ∈ r.cells.toList, u.oneCell' = true)
    (hm : H[m]? = some (nrow v C l)) (ha : l[i]? = some a) (hle : Nat.ble (j + n) C.es = true) (hF : ∀ g, wrL (C.F a g) j r.cells.toList = C.F b (up g)) (hL : Has H L) (hLF : ∀ h ∈ L, Free h) (hS : ∀ g, ∀ h ∈ C.S b (up g), h ∈ C.S a g ∨ h ∈ L) :
    OpT P ⟨d, .store T x y, ty, pos, af, g⟩ V H (fun v' H' => v' = undef ∧ H' = H.set m (nrow v C (l.set i b))) := by
  refine OpT.openN m hm fun lg w o e hS' hs => ?_
  obtain ⟨ga, hg⟩ := nget e ha
  have hsL : HsP L w o m := hL.sat hLF hs m
  have hsa := hS' _ (List.mem_of_getElem? hg)
  have hmlt : m < H.length := (List.getElem?_eq_some_iff.1 hm).1
  have := t_store_row (d := d) (ty := ty) (pos := pos) (af := af) (g := g) (P := P) (V := V) (H := H.set m (row v C.es (C.cs lg))) (i := i) (j := j) (n := n) (c := C.F a ga) (r := r) m hz hx hy (by simp [hmlt]) hn (cs_get hg) hle h1
  intro ρ w1 o1 hf hb hs1
  refine (this ρ w1 o1 hf hb hs1).imp ?_
  rintro v' w' ⟨H', o', ⟨rfl, rfl⟩, r1⟩
  refine ⟨_, o', ⟨v, lg.set i (b, up ga), ?_, ?_, rfl, ?_⟩, r1⟩
  · rw [List.set_set, hF]; simp [NC.cs, List.map_set]
  · intro p hp
    rcases List.mem_or_eq_of_mem_set hp with h | rfl
    · exact hS' p h
    · intro h hh
      rcases hS ga h hh with h1 | h1
      · exact hsa h h1
      · exact hsL h h1
  · simp [List.map_set, e]
end
end

/-! a slice's value lies in one cell -/
theorem ro_one {v : Value} {es : Nat} {cells : List (List Value)} {w : World} {o : Own} {k : Nat} (h : (ro v es cells).p w o k) : v.oneCell' = true := by
  obtain ⟨a, cap, e, _⟩ := h; rw [e]; rfl
theorem nro_one {α : Type} {C : NC α} {v : Value} {l : List α} {w : World} {o : Own} {k : Nat} (h : (nro v C l).p w o k) : v.oneCell' = true := by
  obtain ⟨lg, _, ⟨a, cap, e, _⟩, _⟩ := h; rw [e]; rfl
section
variable {ops : Array Oper} {listed : Array Bool} {fuel : Nat} {Hs : List HA} {h : HA} {v : Value} {es n : Nat}
theorem Rel.slcN {a : Act} {w : World} (m : Nat) (hm : H[m]? = some h) (hr : ReadsN h v es n) (q : Rel E V H a w) : v.cells = #[v] ∧ v.oneCell' = true := by
  obtain ⟨h1, h2, h3, o, hb, ht, hs⟩ := q
  obtain ⟨x, cap, e, _⟩ := hr.is w o m (hs m h hm)
  rw [e]; exact ⟨rfl, rfl⟩
theorem ops_slcN {l : List Oper} (m : Nat) (hm : H[m]? = some h) (hr : ReadsN h v es n) (hk : v.cells = #[v] → v.oneCell' = true → Ops E ops l k V H) : Ops E ops l k V H :=
  fun a w q => hk (q.slcN m hm hr).1 (q.slcN m hm hr).2 a w q
theorem any_slcN (m : Nat) (hm : H[m]? = some h) (hr : ReadsN h v es n) (hk : v.cells = #[v] → v.oneCell' = true → AnyL E ops listed fuel k V H Hs) : AnyL E ops listed fuel k V H Hs :=
  fun a w q => hk (q.slcN m hm hr).1 (q.slcN m hm hr).2 a w q
theorem anyo_slcN {i : Nat} (m : Nat) (hm : H[m]? = some h) (hr : ReadsN h v es n) (hk : v.cells = #[v] → v.oneCell' = true → AnyO E ops listed fuel k V H Hs i) : AnyO E ops listed fuel k V H Hs i :=
  fun a w q => hk (q.slcN m hm hr).1 (q.slcN m hm hr).2 a w q
theorem still_slcN {l : List Oper} (m : Nat) (hm : H[m]? = some h) (hr : ReadsN h v es n) (hk : v.cells = #[v] → v.oneCell' = true → StillL E ops l k V H) : StillL E ops l k V H :=
  fun a w q => hk (q.slcN m hm hr).1 (q.slcN m hm hr).2 a w q
end
section
variable {P : Program} {d : Option Nat} {ty : TypeId} {pos : String} {af : Array Edge} {g : Option (Nat × Bool)}
/-- 's == nil': if so, there is nothing in it -/
theorem t_isnilN {α : Type} {C : NC α} {l : List α} {T el U : TypeId} {x y : Operand} {v : Value} {es : Nat} {h : HA} (m : Nat) (hu : ∀ w, (underlying T).run P w = .ok (.slice el) w)
    (hx : V.ev x = some v) (hy : V.ev y = some (.slice none 0 0)) (hm : H[m]? = some h) (hr : ReadsN h v es l.length) :
    OpT P ⟨d, .binOp .eql T x y U, ty, pos, af, g⟩ V H (fun v' H' => ∃ b : Bool, v' = .bool b ∧ H' = H ∧ (b = true → l = [])) := by
  intro ρ w o hf hbd hs
  obtain ⟨a, cap, e1, e2, e3, e4, e5⟩ := hr.is w o m (hs m h hm)
  subst e1
  have hrun : (execOp ρ ⟨d, .binOp .eql T x y U, ty, pos, af, g⟩).run P w = .ok (.value (.bool a.isNone)) w := by
    simp [execOp, hf x _ hx, hf y _ hy, eqGuard, binOp, run_equal_slice hu]
  unfold Does
  rw [hrun]
  refine ⟨H, o, ⟨_, rfl, rfl, fun hb => ?_⟩, hbd, Tr.refl w o, hs⟩
  cases a with
  | some a => simp at hb
  | none =>
    have := e4 rfl
    exact List.length_eq_zero_iff.1 (by omega)
end
theorem any_cut2 {ops : Array Oper} {Hs : List HA} {fuel0 : Nat} {listed0 : Array Bool} (listed : Array Bool) (fuel : Nat) (S : Type) (Vi : S → List (Nat × Value)) (Hi : S → List HA)
    (h2 : ∀ s, AnyL E ops listed fuel k (VF.of (Vi s)) (Hi s) Hs) (h1 : (∀ s, AnyL E ops listed fuel k (VF.of (Vi s)) (Hi s) Hs) → AnyL E ops listed0 fuel0 k V H Hs) : AnyL E ops listed0 fuel0 k V H Hs := h1 h2
theorem any_weak2 {ops : Array Oper} {Hs : List HA} {fuel : Nat} {listed listed' : Array Bool} {l : List (Nat × Value)} {G : List HA} (h : AnyL E ops listed' fuel k (VF.of l) G Hs) (is : List Nat) (hL : listed = listed') (hl : ∀ x ∈ l, V x.1 = some x.2) (hn : is.Nodup) (hG : Picks is H G) :
    AnyL E ops listed fuel k V H Hs := any_weak l is G hL hl hn hG h
theorem oy {ops : Array Oper} {op : Oper} {rest : List Oper} {v : Value} (hw : op.guard = none) (hd : inB E.n op.dst = true) (h : OpY E.P op V H v)
    (hk : Ops E ops rest k (V.put op.dst v) H) : Ops E ops (op :: rest) k V H := ops_y (wn hw) hd h hk
theorem ot {ops : Array Oper} {op : Oper} {rest : List Oper} {post : Post} (hw : op.guard = none) (hd : inB E.n op.dst = true) (h : OpT E.P op V H post)
    (hk : ∀ v H', post v H' → Ops E ops rest k (V.put op.dst v) H') : Ops E ops (op :: rest) k V H := ops_t (wn hw) hd h hk
theorem sy {ops : Array Oper} {op : Oper} {rest : List Oper} {v : Value} (hw : op.guard = none) (hd : inB E.n op.dst = true) (h : OpY E.P op V H v)
    (hk : StillL E ops rest k (V.put op.dst v) H) : StillL E ops (op :: rest) k V H := still_y (wn hw) hd h hk
theorem ss {H Hs : List HA} {h : HA} (r : Sub H Hs) : Sub (h :: H) (h :: Hs) := sub_same r
theorem se {H Hs : List HA} {h : HA} (r : Sub H Hs) : Sub (h :: H) (HA.emp :: Hs) := sub_emp r
theorem sn {H : List HA} : Sub H [] := sub_nil
theorem turn_dup (m : Nat) {h : HA} (hF : Free h) (hm : H[m]? = some h) : Turn H (H ++ [h]) := turn_add fun w o hs => hF.at w o m _ (hs m h hm)
theorem cs_rep {α : Type} {C : NC α} {n : Nat} {c : List Value} {x : α} {g : C.G} (h : c = C.F x g) : List.replicate n c = C.cs (List.replicate n (x, g)) := by simp [NC.cs, h]
theorem fst_rep {α G : Type} {n : Nat} {x : α} {g : G} : List.replicate n x = (List.replicate n (x, g)).map (·.1) := by simp
theorem hasall_rep {α : Type} {C : NC α} {n : Nat} {x : α} {g : C.G} (h : Has H (C.S x g)) : HasAll H C (List.replicate n (x, g)) := fun p hp => by rw [List.eq_of_mem_replicate hp]; exact h
theorem nil_ro_any {es : Nat} : ∀ w o k, (ro (.slice none 0 0) es []).p w o k := fun _ _ _ => nil_ro es
theorem nil_nro_any {α : Type} {C : NC α} : ∀ w o k, (nro (.slice none 0 0) C []).p w o k := fun _ _ _ => nil_nro C
end Go.Abs
