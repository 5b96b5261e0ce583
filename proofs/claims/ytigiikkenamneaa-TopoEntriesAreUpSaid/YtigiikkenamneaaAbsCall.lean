/-
  Slices of slices and arrays; what is the call's own becomes what is only read; calls by contract.
-/
import Derived.Test.YtigiikkenamneaaAbsAppend
namespace Go.Abs

variable {E : Env} {k : List KI} {V : VF} {H : List HA}

/-! a change of the assertions alone -/
def Turn (H H' : List HA) : Prop := ∀ w o, Bnd w o → Sats w o H → ∃ o', Bnd w o' ∧ Tr w o w o' ∧ Sats w o' H'
theorem Rel.turn {H' : List HA} {a : Act} {w : World} (h : Turn H H') (r : Rel E V H a w) : Rel E V H' a w := by
  obtain ⟨h1, h2, h3, o, hb, ht, hs⟩ := r
  obtain ⟨o', hb', ht', hs'⟩ := h w o hb hs
  exact ⟨h1, h2, h3, o', hb', ht.trans ht', hs'⟩
theorem run_turn {c : Code} {H' : List HA} (h : Turn H H') (hk : Run E c k V H') : Run E c k V H := fun a w r => hk a w (r.turn h)
theorem ops_turn {ops : Array Oper} {l : List Oper} {H' : List HA} (h : Turn H H') (hk : Ops E ops l k V H') : Ops E ops l k V H := fun a w r => hk a w (r.turn h)
theorem goes_turn {H' : List HA} (h : Turn H H') (hk : Goes E k V H') : Goes E k V H := fun a w r => hk a w (r.turn h)
theorem fin_turn {H' : List HA} (h : Turn H H') (hk : Fin E V H') : Fin E V H := fun a w r => hk a w (r.turn h)

def giveUp (o : Own) (m : Nat) : Own := fun b => dropO (o b) m
theorem giveUp_mine {o : Own} {m b : Nat} (h : o b = .mine m) : giveUp o m b = .no := by simp [giveUp, h, dropO]
theorem giveUp_ne {o : Own} {m b : Nat} (h : o b ≠ .mine m) : giveUp o m b = o b := by simp [giveUp, dropO_ne h]
theorem turn_give {m : Nat} {h : HA} {g : HA} (hm : H[m]? = some h) (hg : ∀ w o, h.p w o m → g.p w (giveUp o m) m) : Turn H (H.set m g) := by
  intro w o hb hs
  refine ⟨giveUp o m, fun b hle => by simp [giveUp, hb b hle, dropO], ⟨rfl, rfl, rfl, Nat.le_refl _, fun b _ ho => ⟨?_, rfl⟩, fun b _ ho => ⟨?_, rfl⟩⟩, ?_⟩
  · simp [giveUp, ho, dropO]
  · simp [giveUp, ho, dropO]
  · exact sats_upd (Nat.le_refl _) (fun b _ hne => ⟨giveUp_ne hne, rfl⟩) hs (hg w o (hs m h hm))
/-- a slice of the call's own is only read from now on -/
theorem freeze (m : Nat) {v : Value} {es : Nat} {cells : List (List Value)} (hm : H[m]? = some (row v es cells)) : Turn H (H.set m (ro v es cells)) :=
  turn_give hm fun _ _ hp => SliceIs.keep (Nat.le_refl _) (fun _ _ hb => ⟨giveUp_mine hb, rfl⟩) (RowIs.slice (fun _ hb => hb) hp)
theorem turn_add {g : HA} (hg : ∀ w o, Sats w o H → g.p w o H.length) : Turn H (H ++ [g]) := by
  intro w o hb hs
  refine ⟨o, hb, Tr.refl w o, ?_⟩
  intro j h hj
  rw [List.getElem?_append] at hj
  split at hj
  · exact hs j h hj
  · rename_i hlt
    have h0 : j - H.length = 0 := by
      by_cases h0 : j - H.length = 0
      · exact h0
      · rw [show j - H.length = (j - H.length - 1) + 1 by omega] at hj; simp at hj
    rw [h0] at hj
    simp at hj
    subst hj
    obtain rfl : j = H.length := by omega
    exact hg w o hs
/-- nil is a slice of the call's own -/
theorem nilrow (es : Nat) : Turn H (H ++ [row (.slice none 0 0) es []]) := turn_add fun _ _ _ => .inl ⟨⟨none, rfl⟩, rfl⟩
theorem nilro (es : Nat) : Turn H (H ++ [ro (.slice none 0 0) es []]) := turn_add fun _ _ _ => ⟨none, 0, rfl, Nat.le_refl _, Nat.zero_le _, fun _ => rfl, fun i c hi => by simp at hi⟩
/-- other words for the same cells -/
theorem retell (m : Nat) {h g : HA} (hm : H[m]? = some h) (e : h = g) : Turn H (H.set m g) := by
  subst e
  intro w o hb hs
  exact ⟨o, hb, Tr.refl w o, sats_upd (Nat.le_refl _) (fun b _ _ => ⟨rfl, rfl⟩) hs (hs m h hm)⟩

/-- a slice that is only read, without spare room -/
def roc (v : Value) (es : Nat) (cells : List (List Value)) : HA :=
  ⟨fun w o _ => SliceIs w (fun b => o b = .no) v es cells ∧ ∃ a, v = .slice a cells.length cells.length, fun hs _ h2 hc => ⟨hc.1.keep hs h2, hc.2⟩⟩
theorem reads_roc {v : Value} {es : Nat} {cells : List (List Value)} : Reads (roc v es cells) v es cells :=
  ⟨fun _ _ _ h => SliceIs.keep (Nat.le_refl _) (fun _ _ hb => ⟨.inl hb, rfl⟩) h.1⟩

/-- a bound of a slice expression -/
def Bd (V : VF) (x : Option Operand) (dflt n : Nat) : Prop := (x = none ∧ n = dflt) ∨ ∃ y kd, x = some y ∧ V.ev y = some (.int kd (n : Int))
theorem bd0 {dflt : Nat} : Bd V none dflt dflt := .inl ⟨rfl, rfl⟩
theorem bd1 {y : Operand} {kd : IntKind} {dflt n : Nat} (h : V.ev y = some (.int kd (n : Int))) : Bd V (some y) dflt n := .inr ⟨y, kd, rfl, h⟩

theorem run_bound {P : Program} {w : World} {kd : IntKind} {n m : Nat} {c : BoundsCode} (h : n ≤ m) : (Instr.sliceBound (.int kd (n : Int)) m c).run P w = .ok n w := by
  simp [Instr.sliceBound, asIntOf, h]

theorem SliceIs.sub {w : World} {B : Nat → Prop} {a : Option Addr} {n cap es : Nat} {cells : List (List Value)} (h : SliceIs w B (.slice a n cap) es cells) {l r mx : Nat} (h1 : l ≤ r) (h2 : r ≤ cells.length) (h3 : r ≤ mx) (h4 : mx ≤ cap) :
    SliceIs w B (.slice (if mx = l then a else a.map (·.add (l * es))) (r - l) (mx - l)) es ((cells.take r).drop l) := by
  obtain ⟨a', cap', e1, e2, e3, e4, e5⟩ := h
  simp only [Value.slice.injEq] at e1
  obtain ⟨rfl, rfl, rfl⟩ := e1
  have hlen : ((cells.take r).drop l).length = r - l := by simp; omega
  refine ⟨_, mx - l, by rw [hlen], by rw [hlen]; omega, by omega, ?_, ?_⟩
  · intro hn
    have : a = none := by
      split at hn
      · exact hn
      · simpa using hn
    have := e4 this
    omega
  · intro i c hi
    have hi' : cells[l + i]? = some c := by
      rw [List.getElem?_drop, List.getElem?_take] at hi
      split at hi
      · exact hi
      · simp at hi
    have hlt : i < r - l := by
      have := (List.getElem?_eq_some_iff.1 hi).1
      omega
    obtain ⟨f1, b, off, f2, f3, f4, f5⟩ := e5 (l + i) c hi'
    refine ⟨f1, b, off + l * es, ?_, f3, f4, fun j x hj => ?_⟩
    · rw [if_neg (by omega), f2]
      simp only [Option.map_some, Addr.add]
      split
      · rename_i h0; rw [h0]; rfl
      · rfl
    · have := f5 j x hj
      rw [← this, Nat.add_mul]; congr 2; omega

section slices
variable {P : Program} {d : Option Nat} {ty : TypeId} {pos : String} {af : Array Edge} {g : Option (Nat × Bool)}

theorem run_slice {T el : TypeId} {ρ : Operand → Value} {w : World} {lo hi mx : Option Operand} {a : Option Addr} {n cap es l r : Nat} (hu : ∀ w, (underlying T).run P w = .ok (.slice el) w)
    (hz : ∀ w, (sizeOf el).run P w = .ok es w) (hf : Fits V ρ) (hl : Bd V lo 0 l) (hr : Bd V hi n r) (hm : mx = none) (h1 : l ≤ r) (h2 : r ≤ n) (h3 : n ≤ cap) :
    (Instr.sliceAt T (.slice a n cap) (lo.map ρ) (hi.map ρ) (mx.map ρ)).run P w = .ok (.slice (if cap = l then a else a.map (·.add (l * es))) (r - l) (cap - l)) w := by
  subst hm
  rcases hl with ⟨rfl, rfl⟩ | ⟨y, kd, rfl, hy⟩ <;> rcases hr with ⟨rfl, rfl⟩ | ⟨y', kd', rfl, hy'⟩ <;>
    simp [Instr.sliceAt, Instr.slice, hu, hz, Instr.sliceBounds]
  · rw [hf _ _ hy', run_bound (by omega)]; simp
  · rw [hf _ _ hy, run_bound (by omega)]; simp
  · rw [hf _ _ hy', run_bound (by omega)]; simp; rw [hf _ _ hy, run_bound (by omega)]; simp
theorem t_slice {T el : TypeId} {x : Operand} {v : Value} {lo hi : Option Operand} {es l r : Nat} {cells : List (List Value)} (m : Nat) (hu : ∀ w, (underlying T).run P w = .ok (.slice el) w)
    (hz : ∀ w, (sizeOf el).run P w = .ok es w) (hx : V.ev x = some v) (hm : H[m]? = some (ro v es cells)) (hl : Bd V lo 0 l) (hr : Bd V hi cells.length r) (h1 : l ≤ r) (h2 : r ≤ cells.length) :
    OpT P ⟨d, .slice T x lo hi none, ty, pos, af, g⟩ V H (fun v' H' => H' = H ++ [ro v' es ((cells.take r).drop l)]) := by
  intro ρ w o hf hbd hs
  have hsm := hs m _ hm
  obtain ⟨a, cap, e1, e2, e3, e4, e5⟩ := id hsm
  subst e1
  have hrun := run_slice (P := P) (T := T) (w := w) (a := a) (mx := none) hu hz hf hl hr rfl h1 h2 e2
  unfold Does
  have : (execOp ρ ⟨d, .slice T x lo hi none, ty, pos, af, g⟩).run P w = .ok (.value (.slice (if cap = l then a else a.map (·.add (l * es))) (r - l) (cap - l))) w := by
    simp only [Option.map_none] at hrun
    simp [execOp, hf x _ hx, hrun]
  rw [this]
  obtain ⟨o', hb', ht', hs'⟩ := turn_add (H := H) (g := ro (.slice (if cap = l then a else a.map (·.add (l * es))) (r - l) (cap - l)) es ((cells.take r).drop l))
    (fun w o hs => SliceIs.sub (hs m _ hm) h1 h2 (by omega) (Nat.le_refl _)) w o hbd hs
  exact ⟨_, o', rfl, hb', ht', hs'⟩
/-- with three indexes, the last two equal -/
theorem t_slice3 {T el : TypeId} {x y y' : Operand} {v : Value} {kd kd' : IntKind} {es r : Nat} {cells : List (List Value)} (m : Nat) (hu : ∀ w, (underlying T).run P w = .ok (.slice el) w)
    (hz : ∀ w, (sizeOf el).run P w = .ok es w) (hx : V.ev x = some v) (hm : H[m]? = some (ro v es cells)) (hy : V.ev y = some (.int kd (r : Int))) (hy' : V.ev y' = some (.int kd' (r : Int))) (h2 : r ≤ cells.length) :
    OpT P ⟨d, .slice T x none (some y) (some y'), ty, pos, af, g⟩ V H (fun v' H' => H' = H ++ [roc v' es (cells.take r)]) := by
  intro ρ w o hf hbd hs
  have hi := hs m _ hm
  obtain ⟨a, cap, e1, e2, e3, e4, e5⟩ := id hi
  subst e1
  unfold Does
  have : (execOp ρ ⟨d, .slice T x none (some y) (some y'), ty, pos, af, g⟩).run P w = .ok (.value (.slice (if r = 0 then a else a.map (·.add (0 * es))) (r - 0) (r - 0))) w := by
    simp [execOp, hf x _ hx, Instr.sliceAt, Instr.slice, hu, hz, Instr.sliceBounds, hf _ _ hy, hf _ _ hy', run_bound (show r ≤ cap by omega), run_bound (Nat.le_refl r)]
  rw [this]
  obtain ⟨o', hb', ht', hs'⟩ := turn_add (H := H) (g := roc (.slice (if r = 0 then a else a.map (·.add (0 * es))) (r - 0) (r - 0)) es (cells.take r))
    (fun w o hs => ⟨by simpa using SliceIs.sub (hs m _ hm) (Nat.zero_le r) h2 (Nat.le_refl r) (by omega), (if r = 0 then a else a.map (·.add (0 * es))), by simp [Nat.min_eq_left h2]⟩) w o hbd hs
  exact ⟨_, o', rfl, hb', ht', hs'⟩

/-- append where there is no room -/
theorem t_append_ro {Ts : Array TypeId} {T T2 el : TypeId} {ds2 : TypeDesc} {es : Nat} {x y : Operand} {v vy z : Value} {ti : TypeInfo} {cells new : List (List Value)} (m : Nat)
    (hT : Ts[0]? = some T) (hu : ∀ w, (underlying T).run P w = .ok (.slice el) w) (hT2 : Ts[1]? = some T2) (hu2 : ∀ w, (underlying T2).run P w = .ok ds2 w) (hni : ds2 = .string ∨ ∃ e, ds2 = .slice e)
    (hti : ∀ w, (typeInfo el).run P w = .ok ti w) (hes : ti.size = es) (hby : ti.bytes ≠ 0) (h0 : ∀ w, (zeroValue el).run P w = .ok z w) (hzs : z.cells.size = es)
    (hx : V.ev x = some v) (hm : H[m]? = some (roc v es cells)) (hy : V.ev y = some vy) (hsrc : Src P H vy es new) (hcap : (2 * (cells.length + new.length) + 1000) * ti.bytes ≤ 2 ^ 48) (hlen : cells.length + new.length ≤ maxLen) :
    OpT P ⟨d, .call ⟨.builtin .append, #[x, y], Ts⟩, ty, pos, af, g⟩ V H (fun v' H' => H' = H ++ [ro v' es (cells ++ new)]) := by
  intro ρ w o hf hbd hs
  obtain ⟨hsl, a, e1⟩ := hs m _ hm
  obtain ⟨hs1, hs2⟩ := run_firstCells (P := P) hsl
  have huni := hsl.uni
  obtain ⟨hnew, hsrc⟩ := hsrc
  obtain ⟨hn1, hn2⟩ := hsrc w o hs
  have hnu : ∀ c ∈ new, c.length = es := fun c hc => (hnew c hc).1
  have hsz : ∀ w, (sizeOf el).run P w = .ok es w := fun w => by simp [sizeOf, hti, hes]
  by_cases hnil : new = []
  · subst hnil
    have hrun : (execOp ρ ⟨d, .call ⟨.builtin .append, #[x, y], Ts⟩, ty, pos, af, g⟩).run P w = .ok (.value v) w := by
      simp at hn1 hn2
      cases a with
      | none => rw [e1] at hx; rcases hni with rfl | ⟨e, rfl⟩ <;> simp [execOp, resolve, invoke, builtin, hf x _ hx, hf y _ hy, Builtin.append_, hT, hu, hT2, hu2, hsz, hn1, hn2, e1]
      | some a => rw [e1] at hx; rcases hni with rfl | ⟨e, rfl⟩ <;> simp [execOp, resolve, invoke, builtin, hf x _ hx, hf y _ hy, Builtin.append_, hT, hu, hT2, hu2, hsz, hn1, hn2, e1, storeCells]
    unfold Does
    rw [hrun]
    obtain ⟨o', hb', ht', hs'⟩ := turn_add (H := H) (g := ro v es (cells ++ [])) (fun w o hs => by rw [List.append_nil]; exact (hs m _ hm).1) w o hbd hs
    exact ⟨_, o', rfl, hb', ht', hs'⟩
  · have hpos : 0 < new.length := List.length_pos_iff.2 hnil
    have hroom : ¬ cells.length + new.length ≤ cells.length := by omega
    have hlt : cells.length < cells.length + new.length := by omega
    have hnc := nextcap_le hlt
    have hbig : ¬ Builtin.nextslicecap (cells.length + new.length) cells.length * ti.bytes > 2 ^ 48 := by
      have : Builtin.nextslicecap (cells.length + new.length) cells.length * ti.bytes ≤ (2 * (cells.length + new.length) + 1000) * ti.bytes := Nat.mul_le_mul_right _ hnc
      omega
    have hq : (Question.appendCap (cells.length + new.length) cells.length el).forced = false := rfl
    obtain ⟨c', hc'⟩ : ∃ c', c' = (Question.appendCap (cells.length + new.length) cells.length el).cut (w.tape w.drawn (Question.appendCap (cells.length + new.length) cells.length el)) := ⟨_, rfl⟩
    have hc1 : cells.length + new.length ≤ c' := by rw [hc']; simp only [Question.cut]; omega
    have hc2 : c' ≤ maxLen := by
      rw [hc']; simp only [Question.cut]; unfold maxLen at hlen ⊢
      have : w.tape w.drawn (Question.appendCap (cells.length + new.length) cells.length el) % (2 ^ 63 - (cells.length + new.length)) < 2 ^ 63 - (cells.length + new.length) := Nat.mod_lt _ (by omega)
      omega
    have hnw : Nw w (.cells (cells.flatten.toArray ++ new.flatten.toArray ++ Builtin.zeroCells z.cells (c' - (cells.length + new.length))) el)
        (w.drew.alloc (.cells (cells.flatten.toArray ++ new.flatten.toArray ++ Builtin.zeroCells z.cells (c' - (cells.length + new.length))) el)) := nw_push w _ _
    have hs2' : (Builtin.firstCells es cells.length v).run P w.drew = .ok cells.flatten.toArray w.drew := (run_firstCells (P := P) (w := w.drew) hsl).2
    have hn2' : (Builtin.firstCells es new.length vy).run P w.drew = .ok new.flatten.toArray w.drew :=
      (hsrc w.drew o (fun j h hj => h.keep (w := w) (w' := w.drew) (Nat.le_refl _) (fun b _ hb => ⟨hb, rfl⟩) (fun b _ hb => ⟨hb, rfl⟩) (hs j h hj))).2
    have hrun : (execOp ρ ⟨d, .call ⟨.builtin .append, #[x, y], Ts⟩, ty, pos, af, g⟩).run P w = .ok (.value (.slice (some ⟨w.heap.size, 0, none⟩) (cells.length + new.length) c'))
        (w.drew.alloc (.cells (cells.flatten.toArray ++ new.flatten.toArray ++ Builtin.zeroCells z.cells (c' - (cells.length + new.length))) el)) := by
      rw [e1] at hx hs2'
      rcases hni with rfl | ⟨e, rfl⟩ <;> simp [execOp, resolve, invoke, builtin, hf x _ hx, hf y _ hy, Builtin.append_, hT, hu, hT2, hu2, hsz, hn1, hroom, hti, hby, hbig, hq, ← hc', hs2', hn2', h0, newRow] <;> (rw [← Array.append_assoc]; simp)
    unfold Does
    rw [hrun]
    obtain ⟨h1, h2, h3⟩ := sats_new (g := row (.slice (some ⟨w.heap.size, 0, none⟩) (cells.length + new.length) c') es (cells ++ new)) hbd hnw hs (row_append_new hzs hnw (by simp [addOwn]) hc1 hc2 huni hnu)
    have hfr := freeze (H := H ++ [row (.slice (some ⟨w.heap.size, 0, none⟩) (cells.length + new.length) c') es (cells ++ new)]) (v := .slice (some ⟨w.heap.size, 0, none⟩) (cells.length + new.length) c') (es := es) (cells := cells ++ new) H.length (by simp)
    obtain ⟨o', hb', ht', hs'⟩ := hfr _ _ h1 h3
    rw [List.set_append_right _ _ (Nat.le_refl _)] at hs'
    simp at hs'
    exact ⟨_, o', rfl, hb', h2.trans ht', by simpa using hs'⟩

/-- an array of the call's own, seen as a slice of one-cell elements -/
theorem reads_box {b : Nat} {vs : List Value} (hl : vs.length ≤ maxLen) (off n : Nat) (h : off + n ≤ vs.length) :
    Reads (box b vs) (.slice (some ⟨b, off, none⟩) n n) 1 (((vs.drop off).take n).map ([·])) := by
  refine ⟨fun w o k ⟨e1, e2, T, fz, e3, e4⟩ => ⟨some ⟨b, off, none⟩, n, by simp; omega, by simp; omega, by omega, fun h => by simp at h, ?_⟩⟩
  intro i c hi
  rw [List.getElem?_map] at hi
  cases hx : ((vs.drop off).take n)[i]? with
  | none => rw [hx] at hi; simp at hi
  | some y =>
    rw [hx] at hi; simp at hi; subst hi
    refine ⟨rfl, b, off, rfl, e2, .inr e1, fun j x hj => ?_⟩
    have hj0 : j = 0 := by cases j with | zero => rfl | succ j => simp at hj
    subst hj0
    simp at hj; subst hj
    rw [cell_at e3]
    rw [List.getElem?_take] at hx
    split at hx
    · rw [List.getElem?_drop] at hx; simpa using hx
    · simp at hx
theorem y_slice_box {T el : TypeId} {x : Operand} {b off n es : Nat} (hu : ∀ w, (underlying T).run P w = .ok (.array n el) w) (hz : ∀ w, (sizeOf el).run P w = .ok es w) (hx : V.ev x = some (boxP b off)) :
    OpY P ⟨d, .slice T x none none none, ty, pos, af, g⟩ V H (.slice (some ⟨b, off, none⟩) n n) := by
  intro ρ w o hf _ _
  simp [execOp, hf x _ hx, Instr.sliceAt, hu, boxP, Instr.sureAddr, Instr.sliceBounds, hz]
  simp [Addr.add]
/-- an array among the elements of a slice, seen as a slice -/
theorem t_slice_elem {T el : TypeId} {x : Operand} {v : Value} {i n es : Nat} {cells : List (List Value)} {c : List Value} (m : Nat) (hu : ∀ w, (underlying T).run P w = .ok (.array n el) w) (hz : ∀ w, (sizeOf el).run P w = .ok 1 w)
    (hx : V.ev x = some (elemP v (i * es))) (hm : H[m]? = some (ro v es cells)) (hc : cells[i]? = some c) (hes : es = n) (hn : 0 < n) (hn' : n ≤ maxLen) :
    OpT P ⟨d, .slice T x none none none, ty, pos, af, g⟩ V H (fun v' H' => H' = H ++ [ro v' 1 (c.map ([·]))]) := by
  subst hes
  intro ρ w o hf hbd hs
  unfold Does
  have hadd : ∀ A : Addr, A.spot = none → A.add 0 = A := fun A _ => by simp [Addr.add]
  have : (execOp ρ ⟨d, .slice T x none none none, ty, pos, af, g⟩).run P w = .ok (.value (.slice (some ⟨(Value.sbase v).block, (Value.sbase v).off + i * es, none⟩) es es)) w := by
    simp [execOp, hf x _ hx, Instr.sliceAt, hu, elemP, Instr.sureAddr, Instr.sliceBounds, hz]
    simp [Addr.add]
  rw [this]
  obtain ⟨o', hb', ht', hs'⟩ := turn_add (H := H) (g := ro (.slice (some ⟨(Value.sbase v).block, (Value.sbase v).off + i * es, none⟩) es es) 1 (c.map ([·]))) (fun w o hs => by
    obtain ⟨a, cap, e1, e2, e3, e4, e5⟩ := hs m _ hm
    obtain ⟨f1, b, off, f2, f3, f4, f5⟩ := e5 i c hc
    subst f2
    refine ⟨some ⟨(Value.sbase v).block, (Value.sbase v).off + i * es, none⟩, es, by simp [f1], by simp [f1], hn', fun h => by simp at h, ?_⟩
    intro j cc hj
    rw [List.getElem?_map] at hj
    cases hx : c[j]? with
    | none => rw [hx] at hj; simp at hj
    | some y =>
      rw [hx] at hj; simp at hj; subst hj
      refine ⟨rfl, b, off + i * es, by rw [e1]; rfl, f3, f4, fun j' x hj' => ?_⟩
      have hj0 : j' = 0 := by cases j' with | zero => rfl | succ j => simp at hj'
      subst hj0
      simp at hj'; subst hj'
      simpa using f5 j y hx) w o hbd hs
  exact ⟨_, o', rfl, hb', ht', hs'⟩
end slices

/-! calls by contract -/
def HA.Strict (g : HA) : Prop := ∀ w o k o' k', (∀ b, b < w.heap.size → o b = .mine k → o' b = .mine k') → g.p w o k → g.p w o' k'
theorem strict_row {v : Value} {es : Nat} {cells : List (List Value)} : (row v es cells).Strict :=
  fun _ _ _ _ _ h hp => RowIs.keep (Nat.le_refl _) (fun b hlt hb => ⟨h b hlt hb, rfl⟩) hp
theorem strict_box {b : Nat} {vs : List Value} : (box b vs).Strict :=
  fun _ _ _ _ _ h ⟨e1, e2, e3⟩ => ⟨h b e2 e1, e2, e3⟩

/-- 'h'', at place m, shows the callee 'h' (row: the callee may look into a block of the caller's own) -/
def Views (h' h : HA) (look : Bool) : Prop := ∀ w o m oc j, (∀ b, b < w.heap.size → o b = .no → oc b = .no) → (look = true → ∀ b, b < w.heap.size → o b = .mine m → oc b = .no) → h'.p w o m → h.p w oc j
theorem views_ro {v : Value} {es : Nat} {cells : List (List Value)} : Views (ro v es cells) (ro v es cells) false :=
  fun _ _ _ _ _ h _ hp => SliceIs.keep (Nat.le_refl _) (fun b hlt hb => ⟨h b hlt hb, rfl⟩) hp
theorem views_row {v : Value} {es : Nat} {cells : List (List Value)} : Views (row v es cells) (ro v es cells) true :=
  fun _ _ _ _ _ _ h hp => SliceIs.keep (Nat.le_refl _) (fun b hlt hb => ⟨h rfl b hlt hb, rfl⟩) (RowIs.slice (fun _ hb => hb) hp)
theorem views_reads {h : HA} {v : Value} {es : Nat} {cells : List (List Value)} (hr : Reads h v es cells) : Views h (ro v es cells) true :=
  fun _ _ _ _ _ h1 h2 hp => SliceIs.keep (Nat.le_refl _) (fun b hlt hb => ⟨hb.elim (h1 b hlt) (h2 rfl b hlt), rfl⟩) (hr.is _ _ _ hp)

/-- what of the caller's assertions the callee is shown -/
structure Show where
  at_ : Nat
  look : Bool
def Shows (H : List HA) (sh : List Show) (Hc : List HA) : Prop :=
  sh.length = Hc.length ∧ ∀ (j : Nat) (s : Show) (h : HA), sh[j]? = some s → Hc[j]? = some h → ∃ h', H[s.at_]? = some h' ∧ Views h' h s.look
def shownOwn (sh : List Show) (o : Own) : Own := fun b => match o b with
  | .mine m => if (sh.any fun s => s.look && Nat.beq s.at_ m) then .no else .far
  | x => x

theorem shows_nil : Shows H [] [] := ⟨rfl, fun j s h hj => by simp at hj⟩
theorem shows_cons {sh : List Show} {Hc : List HA} {h' h : HA} (m : Nat) (look : Bool) (hm : H[m]? = some h') (hv : Views h' h look) (hr : Shows H sh Hc) : Shows H (⟨m, look⟩ :: sh) (h :: Hc) := by
  refine ⟨by simp [hr.1], fun j s x hj hx => ?_⟩
  cases j with
  | zero => simp at hj hx; subst hj; subst hx; exact ⟨h', hm, hv⟩
  | succ j => exact hr.2 j s x (by simpa using hj) (by simpa using hx)

theorem t_call {P : Program} {d : Option Nat} {ty : TypeId} {pos : String} {af : Array Edge} {g : Option (Nat × Bool)} {fx : Operand} {f : FuncId} {xs : Array Operand} {Ts : Array TypeId} {vs cs : List Value} {Hc : List HA} {post : Post}
    (sh : List Show) (hfx : V.ev fx = some (.func (.func f) #[] cs.toArray)) (hcall : ∀ args w, (callFunc f args).run P w = .ok (.enter f args) w)
    (hxs : xs.toList.map V.ev = vs.map some) (hc : Meets P f (vs ++ cs) Hc post) (hsh : Shows H sh Hc)
    (hst : (sh.all fun s => !s.look) = true ∨ ∀ v G, post v G → ∀ g ∈ G, g.Strict) :
    OpT P ⟨d, .call ⟨.value fx, xs, Ts⟩, ty, pos, af, g⟩ V H (fun v' H' => ∃ G, post v' G ∧ H' = H ++ G) := by
  intro ρ w o hf hbd hs
  have hargs : (xs.map ρ) = vs.toArray := by
    apply Array.ext'
    rw [Array.toList_map]
    generalize xs.toList = l at hxs
    clear hc
    induction l generalizing vs with
    | nil => cases vs <;> simp_all
    | cons x r ih =>
      cases vs with
      | nil => simp at hxs
      | cons v vs =>
        simp only [List.map_cons, List.cons.injEq] at hxs ⊢
        exact ⟨hf _ _ hxs.1, ih hxs.2⟩
  have hrun : (execOp ρ ⟨d, .call ⟨.value fx, xs, Ts⟩, ty, pos, af, g⟩).run P w = .ok (.enter f (vs ++ cs).toArray) w := by
    simp [execOp, resolve, invoke, Deferred.ofValue, hf fx _ hfx, hargs, hcall]
  unfold Does
  rw [hrun]
  have hoc : ∀ b, o b = .no → shownOwn sh o b = .no := fun b hb => by simp [shownOwn, hb]
  have hoc2 : ∀ s ∈ sh, s.look = true → ∀ b, o b = .mine s.at_ → shownOwn sh o b = .no := by
    intro s hsm hl b hb
    simp only [shownOwn, hb]
    rw [if_pos]
    rw [List.any_eq_true]
    exact ⟨s, hsm, by simp [hl]⟩
  have hoc3 : ∀ b, o b ≠ .no → shownOwn sh o b = .no ∨ shownOwn sh o b = .far := by
    intro b hb
    unfold shownOwn
    cases hob : o b with
    | no => exact absurd hob hb
    | far => exact .inr rfl
    | mine m =>
      simp only []
      split
      · exact .inl rfl
      · exact .inr rfl
  refine (hc w (shownOwn sh o) (fun b hb => hoc b (hbd b hb)) ?_).mono ?_
  · intro j h hj
    have hlt : j < sh.length := by rw [hsh.1]; exact (List.getElem?_eq_some_iff.1 hj).1
    obtain ⟨h', hm, hv⟩ := hsh.2 j sh[j] h (List.getElem?_eq_getElem hlt) hj
    exact hv w o _ _ j (fun b _ => hoc b) (fun hl b _ hb => hoc2 _ (List.getElem_mem hlt) hl b hb) (hs _ h' hm)
  · rintro e w' ⟨v, G, o', rfl, hp, hb', ht, hs'⟩
    have same : ∀ b, b < w.heap.size → w'.heap[b]? = w.heap[b]? := by
      intro b hlt
      by_cases hno : o b = .no
      · exact (ht.no b hlt (hoc b hno)).2
      · rcases hoc3 b hno with h | h
        · exact (ht.no b hlt h).2
        · exact (ht.far b hlt h).2
    -- who owns what afterwards
    let o2 : Own := fun b => if b < w.heap.size then o b else match o' b with | .mine j => .mine (H.length + j) | x => .no
    have ho2 : ∀ b, b < w.heap.size → o2 b = o b := fun b hb => by simp [o2, hb]
    have hold' : ∀ b, b < w.heap.size → ∀ j, o' b ≠ .mine j := by
      intro b hlt j he
      by_cases hno : o b = .no
      · have := (ht.no b hlt (hoc b hno)).1; rw [he] at this; cases this
      · rcases hoc3 b hno with h | h
        · have := (ht.no b hlt h).1; rw [he] at this; cases this
        · have := (ht.far b hlt h).1; rw [he] at this; cases this
    have hmine : ∀ j b, o' b = .mine j → o2 b = .mine (H.length + j) := by
      intro j b he
      by_cases hlt : b < w.heap.size
      · exact absurd he (hold' b hlt j)
      · simp [o2, hlt, he]
    refine ⟨v, rfl, H ++ G, o2, ⟨G, hp, rfl⟩, ?_, ?_, ?_⟩
    · intro b hle
      have hsz := ht.size
      have : ¬ b < w.heap.size := by omega
      simp [o2, this, hb' b hle]
    · exact ⟨ht.os, ht.tape, ht.output, ht.size, fun b hlt hb => ⟨(ho2 b hlt).trans hb, same b hlt⟩, fun b hlt hb => ⟨(ho2 b hlt).trans hb, same b hlt⟩⟩
    · intro j h hj
      rw [List.getElem?_append] at hj
      split at hj
      · exact h.keep ht.size (fun b hlt hb => ⟨(ho2 b hlt).trans hb, same b hlt⟩) (fun b hlt hb => ⟨(ho2 b hlt).trans hb, same b hlt⟩) (hs j h hj)
      · rename_i hge
        have hjj : H.length + (j - H.length) = j := by omega
        have hp' := hs' _ h hj
        rcases hst with hst | hst
        · refine h.keep (Nat.le_refl _) (fun b _ hb => ⟨by rw [hmine _ b hb, hjj], rfl⟩) (fun b hlt hb => ⟨?_, rfl⟩) hp'
          by_cases hlt' : b < w.heap.size
          · rw [ho2 b hlt']
            cases hob : o b with
            | no => rfl
            | far =>
              have h1 : shownOwn sh o b = .far := by simp [shownOwn, hob]
              have := (ht.far b hlt' h1).1
              rw [hb] at this; cases this
            | mine m =>
              have h1 : shownOwn sh o b = .far := by
                simp only [shownOwn, hob]
                rw [if_neg]
                rw [List.any_eq_true]
                rintro ⟨s, hsm, hs2⟩
                have := List.all_eq_true.1 hst s hsm
                simp at this
                simp [this] at hs2
              have := (ht.far b hlt' h1).1
              rw [hb] at this; cases this
          · simp [o2, hlt', hb]
        · have hgm : h ∈ G := List.mem_of_getElem? hj
          exact hst v G hp h hgm w' o' _ o2 j (fun b _ hb => by rw [hmine _ b hb, hjj]) hp'

end Go.Abs
