/-
  More operations: function values, new slices of zeros, maps whose keys are numbers.
-/
import Derived.Test.YtigiikkenamneaaAbsLift3
import Derived.MapKept
namespace Go.Abs
set_option linter.unusedSimpArgs false
variable {E : Env} {k : List KI} {V : VF} {H : List HA}
section
variable {P : Program} {d : Option Nat} {ty : TypeId} {pos : String} {af : Array Edge} {g : Option (Nat × Bool)}
theorem y_makeFunc {f : FuncId} {caps : Array Operand} {vs : List Value} (h : caps.toList.map V.ev = vs.map some) : OpY P ⟨d, .makeFunc (.func f) #[] caps, ty, pos, af, g⟩ V H (.func (.func f) #[] vs.toArray) := by
  intro ρ w o hf _ _
  have : caps.map ρ = vs.toArray := by
    apply Array.ext'
    rw [Array.toList_map]
    generalize caps.toList = l at h
    induction l generalizing vs with
    | nil => cases vs <;> simp_all
    | cons x r ih =>
      cases vs with
      | nil => simp at h
      | cons v vs =>
        simp only [List.map_cons, List.cons.injEq] at h ⊢
        exact ⟨hf _ _ h.1, ih h.2⟩
  simp [execOp, Instr.makeFunc, this]

theorem rep_len (n : Nat) (c : List Value) : (List.replicate n c).flatten.length = n * c.length := by
  induction n with
  | zero => simp
  | succ n ih => rw [List.replicate_succ, List.flatten_cons, List.length_append, ih, Nat.succ_mul, Nat.add_comm]
theorem rep_flat (n : Nat) (z : Array Value) (hz : z.size ≠ 0) : (Array.range (n * z.size)).map (z[· % z.size]!) = (List.replicate n z.toList).flatten.toArray := by
  have hl : (List.replicate n z.toList).flatten.length = n * z.size := by rw [rep_len]; simp
  apply Array.ext_getElem?
  intro i
  by_cases hi : i < n * z.size
  · have h1 : i % z.size < z.size := Nat.mod_lt _ (by omega)
    have h2 : i / z.size < n := Nat.div_lt_of_lt_mul (by rw [Nat.mul_comm]; exact hi)
    have := flat_at (es := z.size) (List.replicate n z.toList) (by intro c hc; rw [List.eq_of_mem_replicate hc]; simp) (i / z.size) (i % z.size) z.toList z[i % z.size] (by simp [h2]) (by simp [h1])
    rw [Nat.mul_comm, Nat.div_add_mod] at this
    have e2 : ((List.replicate n z.toList).flatten.toArray)[i]? = some z[i % z.size] := by simpa using this
    rw [e2]
    simp [hi, h1]
  · rw [Array.getElem?_eq_none (by simp; omega), Array.getElem?_eq_none (by rw [List.size_toArray]; omega)]
/-- a new slice of zeros -/
theorem t_makeSlice {T el : TypeId} {z : Value} {ti : TypeInfo} {x y : Operand} {n : Int} {es : Nat} (hu : ∀ w, (underlying T).run P w = .ok (.slice el) w) (hti : ∀ w, (typeInfo el).run P w = .ok ti w) (hes : ti.size = es) (h0 : ∀ w, (zeroValue el).run P w = .ok z w)
    (hzs : z.cells.size = es) (hpos : es ≠ 0) (hx : V.ev x = some (.int .i64 n)) (hy : V.ev y = some (.int .i64 n)) (hn0 : 0 ≤ n) (hn1 : n ≤ 4294967296) (hb : ti.bytes ≤ 16384) :
    OpT P ⟨d, .makeSlice T x y, ty, pos, af, g⟩ V H (fun v' H' => H' = H ++ [row v' es (List.replicate n.toNat z.cells.toList)]) := by
  intro ρ w o hf hbd hs
  have hw : IntKind.i64.wrap n = n := wrap_i64 (by omega) (by omega)
  have hsz : ∀ w, (sizeOf el).run P w = .ok es w := fun w => by simp [sizeOf, hti, hes]
  have hbn : (ti.bytes : Int) * n ≤ 16384 * 4294967296 := by
    have h1 : (ti.bytes : Int) * n ≤ 16384 * n := Int.mul_le_mul_of_nonneg_right (by omega) hn0
    omega
  have hbig : ¬ (281474976710656 : Int) < (ti.bytes : Int) * n := by omega
  have hroom : ¬ roomBytes < n.toNat * ti.bytes := by
    have h1 : n.toNat * ti.bytes ≤ 4294967296 * 16384 := Nat.mul_le_mul (by omega) hb
    have h2 : 4294967296 * 16384 ≤ roomBytes := by unfold roomBytes; decide
    omega
  have hfl := rep_flat n.toNat z.cells (by omega)
  rw [hzs] at hfl
  have hcells : (if n.toNat * es = 0 then (Array.range (n.toNat * es)).map ((#[] : Array Value)[· % (#[] : Array Value).size]!) else (Array.range (n.toNat * es)).map (z.cells[· % z.cells.size]!)) = (List.replicate n.toNat z.cells.toList).flatten.toArray := by
    split
    · rename_i h
      have : n.toNat = 0 := by rcases Nat.mul_eq_zero.1 h with h | h <;> omega
      simp [this]
    · rw [hzs]; exact hfl
  have hrun : (execOp ρ ⟨d, .makeSlice T x y, ty, pos, af, g⟩).run P w = .ok (.value (.slice (some ⟨w.heap.size, 0, none⟩) n.toNat n.toNat)) { w with heap := w.heap.push (.cells (List.replicate n.toNat z.cells.toList).flatten.toArray el) } := by
    by_cases hne : n.toNat * es = 0
    · rw [if_pos hne] at hcells
      simp [execOp, Instr.makeSlice, hf x _ hx, hf y _ hy, hu, asInt, asIntOf, hti, hw, hbig, Int.not_lt.2 hn0, askRoom, hroom, hsz, hne, newRow]
      rw [← hcells, hne]; simp
    · rw [if_neg hne] at hcells
      simp [execOp, Instr.makeSlice, hf x _ hx, hf y _ hy, hu, asInt, asIntOf, hti, hw, hbig, Int.not_lt.2 hn0, askRoom, hroom, hsz, hne, h0, newRow]
      rw [← hcells]
  unfold Does
  rw [hrun]
  have hn' := nw_push w (.cells (List.replicate n.toNat z.cells.toList).flatten.toArray el) w.drawn
  have hall : ∀ c ∈ List.replicate n.toNat z.cells.toList, c.length = es := fun c hc => by rw [List.eq_of_mem_replicate hc, Array.length_toList, hzs]
  have hrow : RowIs { w with heap := w.heap.push (.cells (List.replicate n.toNat z.cells.toList).flatten.toArray el) } (fun b => addOwn o w.heap.size H.length b = .mine H.length) (.slice (some ⟨w.heap.size, 0, none⟩) n.toNat n.toNat) es (List.replicate n.toNat z.cells.toList) := by
    refine .inr ⟨w.heap.size, 0, n.toNat, (List.replicate n.toNat z.cells.toList).flatten.toArray, el, (0, 0), by simp, by simp [addOwn], by simp, by simp, .inl (Nat.le_refl _), ?_, by simp, by unfold maxLen; omega, hall, ?_⟩
    · rw [List.size_toArray, rep_len]; simp [hzs]
    · intro i c hi j x hj
      rw [Nat.zero_add]
      simpa using flat_at _ hall i j c x hi hj
  obtain ⟨h1, h2, h3⟩ := sats_new (g := row (.slice (some ⟨w.heap.size, 0, none⟩) n.toNat n.toNat) es (List.replicate n.toNat z.cells.toList)) hbd hn' hs hrow
  exact ⟨_, _, rfl, h1, h2, h3⟩
theorem map_rep {α : Type} {F : α → List Value} {n : Nat} {c : List Value} {a : α} (h : c = F a) : List.replicate n c = (List.replicate n a).map F := by rw [h, List.map_replicate]
end

/-! maps -/
def mget {κ β : Type} [DecidableEq κ] : List (κ × β) → κ → Option β
  | [], _ => none
  | p :: r, k => if p.1 = k then some p.2 else mget r k
def mput {κ β : Type} [DecidableEq κ] : List (κ × β) → κ → β → List (κ × β)
  | [], k, v => [(k, v)]
  | p :: r, k, v => if p.1 = k then (k, v) :: r else p :: mput r k v
def mfind {κ β : Type} [DecidableEq κ] : List (κ × β) → κ → Nat → Option (Nat × β)
  | [], _, _ => none
  | p :: r, k, i => if p.1 = k then some (i, p.2) else mfind r k (i + 1)
theorem mfind_get {κ β : Type} [DecidableEq κ] : ∀ (l : List (κ × β)) (k : κ) (i : Nat), (mfind l k i).map (·.2) = mget l k
  | [], _, _ => rfl
  | p :: r, k, i => by
    simp only [mfind, mget]
    split
    · rfl
    · exact mfind_get r k (i + 1)
/-- keys whose equality is seen at once -/
structure KeyOk {κ : Type} [DecidableEq κ] (ds : TypeDesc) (K : κ → Value) : Prop where
  same : ∀ a b, Instr.sameNow ds (K a) (K b) = some (decide (a = b))
  bits : ∀ a n, Instr.sameBits n (K a) (K a) = true
  plain : ∀ (P : Program) (t : TypeId), (∀ w, (underlying t).run P w = .ok ds w) → ∀ e a w, (Instr.checkKey e 10000 t (K a)).run P w = .ok () w
theorem key_int (kd : IntKind) : KeyOk (.int kd) (fun n : Int => Value.int kd n) :=
  ⟨fun a b => by simp [Instr.sameNow, beq_dec], fun a n => by cases n <;> simp [Instr.sameBits], fun P t h e a w => by
    rw [show (10000 : Nat) = 9999 + 1 from rfl, Instr.checkKey]
    simp only [Sem.run_bind, h, Result.andThen_ok]; rfl⟩
theorem key_str : KeyOk .string (fun l : List UInt8 => Value.string (bs l)) :=
  ⟨fun a b => by
    have : (bs a == bs b) = decide (a = b) := by show (a.toArray == b.toArray) = _; simp [beq_dec]
    simp [Instr.sameNow, this], fun a n => by
    have : (bs a == bs a) = true := by show (a.toArray == a.toArray) = _; simp
    cases n <;> simp [Instr.sameBits, this], fun P t h e a w => by
    rw [show (10000 : Nat) = 9999 + 1 from rfl, Instr.checkKey]
    simp only [Sem.run_bind, h, Result.andThen_ok]; rfl⟩
section
variable {P : Program} {d : Option Nat} {ty : TypeId} {pos : String} {af : Array Edge} {g : Option (Nat × Bool)} {κ β : Type} [DecidableEq κ]
def mcells (K : κ → Value) (G : β → Value) (l : List (κ × β)) : List (Value × Value) := l.map fun p => (K p.1, G p.2)
/-- a map of the call's own -/
def mapis (r : Nat) (kv : List (Value × Value)) : HA :=
  ⟨fun w o k => o r = .mine k ∧ r < w.heap.size ∧ ∃ es clock, w.heap[r]? = some (.map es clock) ∧ es.toList.map (fun e => (e.key, e.val)) = kv, fun hs h1 _ hc =>
    let ⟨e1, e2, es, cl, e3, e4⟩ := hc; let ⟨e5, e6⟩ := h1 r e2 e1; ⟨e5, Nat.lt_of_lt_of_le e2 hs, es, cl, e6.trans e3, e4⟩⟩
def mapV (r : Nat) : Value := .map (some r)
theorem findNow_eq {ds : TypeDesc} {K : κ → Value} {G : β → Value} (hK : KeyOk ds K) (k : κ) : ∀ (es : List MapEntry) (l : List (κ × β)) (i : Nat), es.map (fun e => (e.key, e.val)) = mcells K G l →
    Instr.findNow ds (K k) es i = some ((mfind l k i).map fun p => (p.1, G p.2))
  | [], l, i, h => by
    cases l with
    | nil => rfl
    | cons p r => simp [mcells] at h
  | e :: es, l, i, h => by
    cases l with
    | nil => simp [mcells] at h
    | cons p r =>
      simp only [mcells, List.map_cons, List.cons.injEq, Prod.mk.injEq] at h
      obtain ⟨⟨h1, h2⟩, h3⟩ := h
      simp only [Instr.findNow, mfind, h1, hK.same]
      by_cases hp : p.1 = k
      · subst hp; simp [h2]
      · have : ¬ k = p.1 := fun h => hp h.symm
        simp only [this, decide_false, hp, if_false]
        exact findNow_eq hK k es r (i + 1) h3
theorem run_findKey' {w : World} {t : TypeId} {ds : TypeDesc} {K : κ → Value} {G : β → Value} (hK : KeyOk ds K) (hu : ∀ w, (underlying t).run P w = .ok ds w) {es : List MapEntry} {l : List (κ × β)} (h : es.map (fun e => (e.key, e.val)) = mcells K G l) (k : κ) :
    (Instr.findKey t (K k) es).run P w = .ok ((mfind l k 0).map fun p => (p.1, G p.2)) w := by
  simp [Instr.findKey, hu, findNow_eq hK k es l 0 h]
/-- a look into a map -/
theorem y_lookup {T kt el : TypeId} {ds : TypeDesc} {K : κ → Value} {G : β → Value} {x y : Operand} {r : Nat} {l : List (κ × β)} {k : κ} {d0 : β} (m : Nat) (hK : KeyOk ds K) (hT : ∀ w, (underlying T).run P w = .ok (.map kt el) w) (hk : ∀ w, (underlying kt).run P w = .ok ds w)
    (hz : ∀ w, (zeroValue el).run P w = .ok (G d0) w) (hx : V.ev x = some (mapV r)) (hy : V.ev y = some (K k)) (hm : H[m]? = some (mapis r (mcells K G l))) : OpY P ⟨d, .lookup T x y false, ty, pos, af, g⟩ V H (G ((mget l k).getD d0)) := by
  intro ρ w o hf _ hs
  obtain ⟨_, _, es, cl, e3, e4⟩ := hs m _ hm
  have h1 := run_findKey' (P := P) (w := w) hK hk e4 k
  have h2 : (getObj r).run P w = .ok (.map es cl) w := by simp [getObj, Sem.run, e3]
  have h3 := hK.plain P kt hk es.isEmpty k w
  have hg := mfind_get l k 0
  cases hfi : mfind l k 0 with
  | none =>
    rw [hfi] at h1 hg
    simp at hg h1
    simp [execOp, Instr.lookup, hf x _ hx, hf y _ hy, hT, mapV, h2, h3, h1, hz, ← hg]
  | some p =>
    rw [hfi] at h1 hg
    simp at hg h1
    simp [execOp, Instr.lookup, hf x _ hx, hf y _ hy, hT, mapV, h2, h3, h1, ← hg]
theorem y_lookup2 {T kt el : TypeId} {ds : TypeDesc} {K : κ → Value} {G : β → Value} {x y : Operand} {r : Nat} {l : List (κ × β)} {k : κ} {d0 : β} (m : Nat) (hK : KeyOk ds K) (hT : ∀ w, (underlying T).run P w = .ok (.map kt el) w) (hk : ∀ w, (underlying kt).run P w = .ok ds w)
    (hz : ∀ w, (zeroValue el).run P w = .ok (G d0) w) (hx : V.ev x = some (mapV r)) (hy : V.ev y = some (K k)) (hm : H[m]? = some (mapis r (mcells K G l))) :
    OpY P ⟨d, .lookup T x y true, ty, pos, af, g⟩ V H (.tuple #[G ((mget l k).getD d0), .bool (mget l k).isSome]) := by
  intro ρ w o hf _ hs
  obtain ⟨_, _, es, cl, e3, e4⟩ := hs m _ hm
  have h1 := run_findKey' (P := P) (w := w) hK hk e4 k
  have h2 : (getObj r).run P w = .ok (.map es cl) w := by simp [getObj, Sem.run, e3]
  have h3 := hK.plain P kt hk es.isEmpty k w
  have hg := mfind_get l k 0
  cases hfi : mfind l k 0 with
  | none =>
    rw [hfi] at h1 hg
    simp at hg h1
    simp [execOp, Instr.lookup, hf x _ hx, hf y _ hy, hT, mapV, h2, h3, h1, hz, ← hg]
  | some p =>
    rw [hfi] at h1 hg
    simp at hg h1
    simp [execOp, Instr.lookup, hf x _ hx, hf y _ hy, hT, mapV, h2, h3, h1, ← hg]
theorem mput_cells {K : κ → Value} {G : β → Value} : ∀ (es : List MapEntry) (l : List (κ × β)) (k : κ) (v : β) (i : Nat), es.map (fun e => (e.key, e.val)) = mcells K G l →
    (match mfind l k i with
      | none => ∀ b, (es ++ [(⟨K k, G v, b⟩ : MapEntry)]).map (fun e => (e.key, e.val)) = mcells K G (mput l k v)
      | some (j, _) => i ≤ j ∧ (es.modify (j - i) fun e => { e with key := K k, val := G v }).map (fun e => (e.key, e.val)) = mcells K G (mput l k v) ∧ ((es[j - i]?).map (·.key)) = some (K k))
  | [], l, k, v, i, h => by
    cases l with
    | nil => simp [mfind, mput, mcells]
    | cons p r => simp [mcells] at h
  | e :: es, l, k, v, i, h => by
    cases l with
    | nil => simp [mcells] at h
    | cons p r =>
      simp only [mcells, List.map_cons, List.cons.injEq, Prod.mk.injEq] at h
      obtain ⟨⟨h1, h2⟩, h3⟩ := h
      by_cases hp : p.1 = k
      · subst hp
        simp only [mfind, mput, if_true]
        refine ⟨Nat.le_refl _, ?_, ?_⟩
        · simp [mcells, h3]
        · simp [h1]
      · have ih := mput_cells (K := K) (G := G) es r k v (i + 1) h3
        simp only [mfind, mput, if_neg hp]
        cases hm : mfind r k (i + 1) with
        | none =>
          rw [hm] at ih
          intro b
          have := ih b
          simp only [mcells] at this ⊢
          simp [h1, h2, ← this]
        | some q =>
          obtain ⟨j, b⟩ := q
          rw [hm] at ih
          obtain ⟨i1, i2, i3⟩ := ih
          have e : j - i = (j - (i + 1)) + 1 := by omega
          refine ⟨by omega, ?_, ?_⟩
          · rw [e, List.modify_succ_cons]
            simp only [List.map_cons, i2]
            simp [mcells, h1, h2]
          · rw [e]; simpa using i3
/-- a store into a map of the call's own -/
theorem t_mapUpdate {T kt el : TypeId} {ds : TypeDesc} {K : κ → Value} {G : β → Value} {x y z : Operand} {r : Nat} {l : List (κ × β)} {k : κ} {v : β} (m : Nat) (hK : KeyOk ds K) (hT : ∀ w, (underlying T).run P w = .ok (.map kt el) w) (hk : ∀ w, (underlying kt).run P w = .ok ds w)
    (hx : V.ev x = some (mapV r)) (hy : V.ev y = some (K k)) (hz : V.ev z = some (G v)) (hm : H[m]? = some (mapis r (mcells K G l))) (ins : Bool) :
    OpT P ⟨d, if ins then .insert T x y z else .mapUpdate T x y z, ty, pos, af, g⟩ V H (fun v' H' => v' = undef ∧ H' = H.set m (mapis r (mcells K G (mput l k v)))) := by
  intro ρ w o hf hbd hs
  obtain ⟨e1, e2, es, cl, e3, e4⟩ := hs m _ hm
  have h1 := run_findKey' (P := P) (w := w) hK hk e4 k
  have h2 : (getObj r).run P w = .ok (.map es cl) w := by simp [getObj, Sem.run, e3]
  have h3 := hK.plain P kt hk false k w
  have hmp := mput_cells (K := K) (G := G) es.toList l k v 0 e4
  obtain ⟨es', cl', hrun, hes⟩ : ∃ es' cl', (Instr.mapUpdate T (mapV r) (K k) (G v)).run P w = .ok () { w with heap := w.heap.setIfInBounds r (.map es' cl') } ∧ es'.toList.map (fun e => (e.key, e.val)) = mcells K G (mput l k v) := by
    cases hfi : mfind l k 0 with
    | none =>
      rw [hfi] at h1 hmp
      refine ⟨es.push ⟨K k, G v, cl⟩, cl + 1, ?_, by simpa using hmp cl⟩
      simp at h1
      simp [Instr.mapUpdate, mapV, hT, h2, h3, h1, setObj, Sem.run, e3]
    | some q =>
      obtain ⟨j, b⟩ := q
      rw [hfi] at h1 hmp
      obtain ⟨_, m1, m2⟩ := hmp
      simp at h1 m1 m2
      refine ⟨es.modify j fun e => { e with key := K k, val := G v }, cl, ?_, by simpa using m1⟩
      obtain ⟨ee, he1, he2⟩ := m2
      have hkey : (Instr.keyThatStays (((es[j]?).map (·.key)).getD (K k)) (K k)).run P w = .ok (K k) w := by
        simp [he1, he2, Instr.keyThatStays, hK.bits]
      simp [Instr.mapUpdate, mapV, hT, h2, h3, h1]
      rw [hkey]
      simp [setObj, Sem.run, e3]
  have hrun2 : (execOp ρ ⟨d, if ins then .insert T x y z else .mapUpdate T x y z, ty, pos, af, g⟩).run P w = .ok .skip { w with heap := w.heap.setIfInBounds r (.map es' cl') } := by
    cases ins <;> simp [execOp, hf x _ hx, hf y _ hy, hf z _ hz, hrun]
  unfold Does
  rw [hrun2]
  have hoth : ∀ b, b ≠ r → (w.heap.setIfInBounds r (.map es' cl'))[b]? = w.heap[b]? := fun b hb => Array.getElem?_setIfInBounds_ne (Ne.symm hb)
  refine ⟨_, o, ⟨rfl, rfl⟩, fun b hb => hbd b (by simpa using hb), ⟨rfl, rfl, rfl, by simp, fun b hlt hb => ⟨hb, hoth b ?_⟩, fun b hlt hb => ⟨hb, hoth b ?_⟩⟩, ?_⟩
  · rintro rfl; rw [e1] at hb; cases hb
  · rintro rfl; rw [e1] at hb; cases hb
  · refine sats_upd (by simp) (fun b hlt hb => ⟨rfl, hoth b ?_⟩) hs ⟨e1, by simpa using e2, es', cl', by simp [e2], hes⟩
    rintro rfl; exact hb e1
/-- a new map -/
theorem t_makeMap {T : TypeId} : OpT P ⟨d, .makeMap T none, ty, pos, af, g⟩ V H (fun v' H' => ∃ r, v' = mapV r ∧ H' = H ++ [mapis r []]) := by
  intro ρ w o hf hbd hs
  have hn := nw_push w (.map #[] 0) w.drawn
  have hrun : (execOp ρ ⟨d, .makeMap T none, ty, pos, af, g⟩).run P w = .ok (.value (mapV w.heap.size)) { w with heap := w.heap.push (.map #[] 0) } := by
    simp [execOp, Instr.makeMap, newObj, mapV, Sem.run]
  unfold Does
  rw [hrun]
  obtain ⟨h1, h2, h3⟩ := sats_new (g := mapis w.heap.size []) hbd hn hs ⟨by simp [addOwn], by simp, #[], 0, by simp, rfl⟩
  exact ⟨_, _, ⟨_, rfl, rfl⟩, h1, h2, h3⟩
end
end Go.Abs
