/-
  Lifted functions: the words in which they are written, and the rules by which a walk follows them.
-/
import Derived.Test.YtigiikkenamneaaAbsLoop
import Derived.OrdersHeld
namespace Go.Abs

def need {α : Type} (p : Prop) [Decidable p] (x : Option α) : Option α := if p then x else none
theorem need_some {α : Type} {p : Prop} [Decidable p] {x : Option α} {r : α} (h : need p x = some r) : p ∧ x = some r := by
  unfold need at h; split at h <;> simp_all
def idx {α β : Type} (l : List α) (i : Int) (k : α → Option β) : Option β :=
  if 0 ≤ i then (match l[i.toNat]? with | some x => k x | none => none) else none
theorem idx_some {α β : Type} {l : List α} {i : Int} {k : α → Option β} {r : β} (h : idx l i k = some r) :
    ∃ x, 0 ≤ i ∧ i.toNat < l.length ∧ l[i.toNat]? = some x ∧ k x = some r := by
  unfold idx at h
  split at h
  · split at h
    · rename_i h0 _ x hx
      exact ⟨x, h0, (List.getElem?_eq_some_iff.1 hx).1, hx, h⟩
    · simp at h
  · simp at h
theorem bind_some {α β : Type} {x : Option α} {k : α → Option β} {r : β} (h : x.bind k = some r) : ∃ a, x = some a ∧ k a = some r := by
  cases x with
  | none => simp at h
  | some a => exact ⟨a, rfl, h⟩
inductive Lp (S R : Type) where
  | go (s : S)
  | stop (r : R)
def bindJ {S R : Type} (x : Option (Lp S R)) (k : S → Option R) : Option R :=
  match x with
  | some (.go s) => k s
  | some (.stop r) => some r
  | none => none
def After {S R : Type} (o : Lp S R) (k : S → Option R) (r : R) : Prop :=
  match o with
  | .go s => k s = some r
  | .stop r' => r' = r
theorem bindJ_some {S R : Type} {x : Option (Lp S R)} {k : S → Option R} {r : R} (h : bindJ x k = some r) : ∃ o, x = some o ∧ After o k r := by
  cases x with
  | none => simp [bindJ] at h
  | some o => cases o with
    | go s => exact ⟨_, rfl, h⟩
    | stop r' => exact ⟨_, rfl, Option.some.inj h⟩
def iter {S R : Type} (step : S → Option (Lp S R)) : Nat → S → Option R
  | 0, _ => none
  | n + 1, s => match step s with
    | some (.go s') => iter step n s'
    | some (.stop r) => some r
    | none => none
theorem cond_t {α : Type} {b : Bool} {x y : Option α} {r : α} (h : cond b x y = some r) (hb : b = true) : x = some r := by subst hb; exact h
theorem cond_f {α : Type} {b : Bool} {x y : Option α} {r : α} (h : cond b x y = some r) (hb : b = false) : y = some r := by subst hb; exact h
theorem some_eq {α : Type} {a b : α} (h : some a = some b) : a = b := Option.some.inj h

variable {E : Env} {k : List KI} {V : VF} {H : List HA}

/-- a loop, as its lifted round says -/
theorem run_iter {S R G : Type} {step : S → Option (Lp S R)} {n : Nat} {s0 : S} {out : R} (h : iter step n s0 = some out) {c : Code} (g0 : G) (Vi : S → G → List (Nat × Value)) (Hi : S → G → List HA) (is : List Nat)
    (hl : ∀ x ∈ Vi s0 g0, V x.1 = some x.2) (hn : is.Nodup) (hG : Picks is H (Hi s0 g0))
    (round : ∀ s g o, step s = some o → ∀ L : Act → World → Prop, (∀ s' g', o = .go s' → ∀ a w, Rel E (VF.of (Vi s' g')) (Hi s' g') a w → L a w) → (∀ r, o = .stop r → r = out) →
      Run E c (.loop L :: k) (VF.of (Vi s g)) (Hi s g)) : Run E (.loop c) k V H := by
  refine run_loop ((Nat × S) × G) (fun x => Vi x.1.2 x.2) (fun x => Hi x.1.2 x.2) (fun x => iter step x.1.1 x.1.2 = some out) (fun x => x.1.1) is ((n, s0), g0) hl hn hG h ?_
  rintro ⟨⟨n, s⟩, g⟩ hi L hL
  cases n with
  | zero => simp [iter] at hi
  | succ n =>
    simp only [iter] at hi
    cases hs : step s with
    | none => rw [hs] at hi; simp at hi
    | some o =>
      rw [hs] at hi
      refine round s g o hs L (fun s' g' ho a w hr => hL ((n, s'), g') ?_ (Nat.lt_succ_self n) a w hr) (fun r ho => ?_)
      · subst ho; exact hi
      · subst ho; simpa using hi
theorem goes_iter {L : Act → World → Prop} {S R G : Type} {o : Lp S R} {Vi : S → G → List (Nat × Value)} {Hi : S → G → List HA}
    (hL : ∀ s' g', o = .go s' → ∀ a w, Rel E (VF.of (Vi s' g')) (Hi s' g') a w → L a w) (s' : S) (g' : G) (is : List Nat) (ho : o = .go s')
    (hl : ∀ x ∈ Vi s' g', V x.1 = some x.2) (hn : is.Nodup) (hG : Picks is H (Hi s' g')) : Goes E (.loop L :: k) V H :=
  fun a w r => hL s' g' ho a w ((r.vle (VF.le_of _ hl)).pick hn hG)

/-! the ways through a part of a region meet again -/
theorem uponIn_then {F : Fence} {n : Nat} {P : Program} {o : Oper} {a : Act} {L next next' : Act → World → Prop} {Q : Exit → Act → World → Prop} (hn : ∀ a w, next a w → next' a w) {r : Result Next}
    (h : o.uponIn F n P a next (Exit.then L Q) r) : o.uponIn F n P a next' Q r := by
  cases r with
  | ok x w' =>
    cases x <;> simp only [Oper.uponIn] at h ⊢ <;>
      first
        | exact hn _ _ h
        | exact ⟨h.1, CallsIn.mono h.2 (fun e w'' he => by cases e <;> first | exact hn _ _ he | exact he)⟩
        | exact ⟨h.1, RowsIn.mono h.2 (fun _ _ he => hn _ _ he)⟩
        | exact ⟨h.1, RoundIn.mono h.2 (fun e w'' he => by cases e <;> first | exact hn _ _ he | exact he)⟩
  | halt x w' => cases x <;> simp only [Oper.uponIn] at h ⊢ <;> exact h
theorem wpListIn_append {P : Program} {ops : Array Oper} {Q : Exit → Act → World → Prop} {r : Option Nat} {l2 : List Oper} : ∀ (l1 : List Oper) {a : Act} {w : World},
    wpListIn (FR r) 0 P ops (Exit.then (fun a w => wpListIn (FR r) 0 P ops Q l2 a w) Q) l1 a w → wpListIn (FR r) 0 P ops Q (l1 ++ l2) a w
  | [], a, w, h => h
  | o :: l1, a, w, h => by
    simp only [List.cons_append]
    unfold wpListIn at h ⊢
    split
    · rename_i hw
      rw [if_pos hw] at h
      exact ⟨h.1, uponIn_then (fun a w h => wpListIn_append l1 h) h.2⟩
    · rename_i hw
      rw [if_neg hw] at h
      exact ⟨h.1, wpListIn_append l1 h.2⟩
theorem ops_cut {ops : Array Oper} {l : List Oper} (m : Nat) (S : Type) (Vi : S → List (Nat × Value)) (Hi : S → List HA) (inv : S → Prop)
    (h1 : ∀ L : Act → World → Prop, (∀ s, inv s → ∀ a w, Rel E (VF.of (Vi s)) (Hi s) a w → L a w) → Ops E ops (l.take m) (.loop L :: k) V H)
    (h2 : ∀ s, inv s → Ops E ops (l.drop m) k (VF.of (Vi s)) (Hi s)) : Ops E ops l k V H := by
  intro a w r
  have h := h1 (fun a w => wpListIn (FR E.r) 0 E.P ops (Qof E k) (l.drop m) a w) (fun s hi a w hr => h2 s hi a w hr) a w r
  have := wpListIn_append (l.take m) h
  rwa [List.take_append_drop] at this
theorem wpStill_append {P : Program} {ops : Array Oper} {w : World} {Q : Act → Prop} {l2 : List Oper} : ∀ (l1 : List Oper) {a : Act},
    wpStill P ops w (wpStill P ops w Q l2) l1 a → wpStill P ops w Q (l1 ++ l2) a
  | [], _, h => h
  | o :: l1, a, h => by
    simp only [List.cons_append]
    unfold wpStill at h ⊢
    have e : wpStill P ops w (wpStill P ops w Q l2) l1 = wpStill P ops w Q (l1 ++ l2) := by
      clear h
      induction l1 with
      | nil => rfl
      | cons x l1 ih => funext a; simp only [List.cons_append, wpStill, ih]
    rw [e] at h
    exact h
theorem still_cut {ops : Array Oper} {l : List Oper} (m : Nat) (S : Type) (Vi : S → List (Nat × Value)) (Hi : S → List HA) (inv : S → Prop)
    (h1 : ∀ L : Act → World → Prop, (∀ s, inv s → ∀ a w, Rel E (VF.of (Vi s)) (Hi s) a w → L a w) → StillL E ops (l.take m) (.loop L :: k) V H)
    (h2 : ∀ s, inv s → StillL E ops (l.drop m) k (VF.of (Vi s)) (Hi s)) : StillL E ops l k V H := by
  intro a w r
  have h := h1 (fun a w => wpStill E.P ops w (fun a' => Qof E k .normal a' w) (l.drop m) a) (fun s hi a w hr => h2 s hi a w hr) a w r
  have := wpStill_append (l.take m) h
  rwa [List.take_append_drop] at this

/-! indexes as integers -/
section
variable {P : Program} {d : Option Nat} {ty : TypeId} {pos : String} {af : Array Edge} {g : Option (Nat × Bool)}
theorem toNat_int {i : Int} (h : 0 ≤ i) : i = ((i.toNat : Nat) : Int) := by omega
theorem y_indexAddrI {T el : TypeId} {x y : Operand} {v : Value} {kd : IntKind} {i : Int} {es : Nat} {cells : List (List Value)} {h : HA} (m : Nat) (hu : ∀ w, (underlying T).run P w = .ok (.slice el) w)
    (hz : ∀ w, (sizeOf el).run P w = .ok es w) (hx : V.ev x = some v) (hy : V.ev y = some (.int kd i)) (hm : H[m]? = some h) (hr : Reads h v es cells) (h0 : 0 ≤ i) (hn : i.toNat < cells.length) :
    OpY P ⟨d, .indexAddr T x y, ty, pos, af, g⟩ V H (elemP v (i.toNat * es)) := by
  refine y_indexAddr (kd := kd) (n := i.toNat) m hu hz hx ?_ hm hr hn
  rw [hy, ← toNat_int h0]
theorem y_index_strI {T : TypeId} {x y : Operand} {kd : IntKind} {i : Int} {l : List UInt8} {b : UInt8} (hu : ∀ w, (underlying T).run P w = .ok .string w) (hx : V.ev x = some (.string (bs l)))
    (hy : V.ev y = some (.int kd i)) (h0 : 0 ≤ i) (hb : l[i.toNat]? = some b) : OpY P ⟨d, .index T x y, ty, pos, af, g⟩ V H (.int .u8 b.toNat) := by
  refine y_index_str (kd := kd) (n := i.toNat) hu hx ?_ hb
  rw [hy, ← toNat_int h0]
theorem map_get {α : Type} {F : α → List Value} {l : List α} {i : Nat} {x : α} (h : l[i]? = some x) : (l.map F)[i]? = some (F x) := by rw [List.getElem?_map, h]; rfl
theorem map_lt {α : Type} {F : α → List Value} {l : List α} {i : Nat} (h : i < l.length) : i < (l.map F).length := by simpa using h
theorem map_ok {α : Type} {F : α → List Value} {n : Nat} (hF : ∀ x, (F x).length = n ∧ ∀ u ∈ F x, u.oneCell' = true) (l : List α) : ∀ c ∈ l.map F, c.length = n ∧ ∀ u ∈ c, u.oneCell' = true := by
  intro c hc
  obtain ⟨x, _, rfl⟩ := List.mem_map.1 hc
  exact hF x
theorem map_room {α : Type} {F : α → List Value} {l m : List α} {b : Nat} (h : l.length + m.length ≤ 4294967296) (hb : b ≤ 16384) : (2 * ((l.map F).length + (m.map F).length) + 1000) * b ≤ 2 ^ 48 := by
  have h1 : (2 * ((l.map F).length + (m.map F).length) + 1000) ≤ 8589935592 := by simp only [List.length_map]; omega
  calc (2 * ((l.map F).length + (m.map F).length) + 1000) * b ≤ 8589935592 * 16384 := Nat.mul_le_mul h1 hb
    _ ≤ 2 ^ 48 := by decide
theorem map_fit {α : Type} {F : α → List Value} {l m : List α} (h : l.length + m.length ≤ 4294967296) : (l.map F).length + (m.map F).length ≤ maxLen := by
  simp only [List.length_map]; unfold maxLen; omega
theorem v_len {α : Type} (F : α → List Value) (l : List α) : Value.int .i64 ((l.map F).length : Nat) = .int .i64 (l.length : Int) := by simp

/-! structs built, structs compared -/
def FS (P : Program) (fl : List Field) (pl : List (Nat × Nat)) : Prop :=
  ∀ w, (fl.mapM (fun (f : Field) => (do pure (f.offset, ← sizeOf f.type) : Sem (Nat × Nat)))).run P w = .ok pl w
theorem fs_nil : FS P [] [] := fun w => by simp
theorem fs_cons {f : Field} {n : Nat} {r : List Field} {pl : List (Nat × Nat)} (hz : ∀ w, (sizeOf f.type).run P w = .ok n w) (hr : FS P r pl) : FS P (f :: r) ((f.offset, n) :: pl) := by
  intro w
  have := hr w
  simp only [bind_pure_comp] at this ⊢
  simp [List.mapM_cons, hz, this]
def fillC (place : Nat → Option (Nat × Nat)) (cells : Array Value) : List (Nat × List Value) → Option (Array Value)
  | [] => some cells
  | (i, c) :: rest =>
    match place i with
    | none => none
    | some (off, size) =>
      if c.length ≠ size || off + c.length > cells.size then none
      else fillC place (writeAt cells off c) rest
theorem fill_fillC (place : Nat → Option (Nat × Nat)) : ∀ (vs : List (Nat × Value)) (cells : Array Value), Instr.fill place cells vs = fillC place cells (vs.map fun p => (p.1, p.2.cells.toList))
  | [], cells => rfl
  | (i, v) :: rest, cells => by
    simp only [Instr.fill, List.map_cons, fillC]
    cases place i with
    | none => rfl
    | some p =>
      obtain ⟨off, size⟩ := p
      simp only [Array.length_toList]
      split
      · rfl
      · have e : v.cells.zipIdx.foldl (fun cs (x : Value × Nat) => cs.setIfInBounds (off + x.2) x.1) cells = writeAt cells off v.cells.toList := by
          rw [← Array.foldl_toList, Array.toList_zipIdx]
          exact foldl_write off v.cells.toList 0 cells
        rw [e]
        exact fill_fillC place rest _
theorem y_build_struct {T : TypeId} {parts : Array (Nat × Operand)} {z : Value} {fl : List Field} {pl : List (Nat × Nat)} {cells : Array Value} (vs : List (Nat × Value)) (cs : List (Nat × List Value)) (h0 : ∀ w, (zeroValue T).run P w = .ok z w)
    (hu : ∀ w, (underlying T).run P w = .ok (.struct fl.toArray) w) (hF : FS P fl pl) (hp : parts.toList.map (fun p => (p.1, V.ev p.2)) = vs.map (fun p => (p.1, some p.2)))
    (hcs : vs.map (fun p => (p.1, p.2.cells.toList)) = cs) (hc : fillC (fun i => pl.toArray[i]?) z.cells cs = some cells) : OpY P ⟨d, .build T parts, ty, pos, af, g⟩ V H (.agg cells) := by
  intro ρ w o hf _ hs
  have hpv := parts_eq (V := V) (ρ := ρ) (fun x v h => hf x v h) _ _ hp
  have hm := hF w
  rw [← hcs, ← fill_fillC] at hc
  simp only [bind_pure_comp] at hm
  simp only [List.getElem?_toArray] at hc
  simp [execOp, Instr.build, hu, h0, hpv, hm, hc]

def EqF (P : Program) (n : Nat) (xs ys : Array Value) (f : Field) (b : Bool) : Prop :=
  f.name ≠ "_" ∧ ∀ w, (do Op.equalIn (n + 1) f.type (← part f.type xs f.offset) (← part f.type ys f.offset)).run P w = .ok b w
theorem eqf_int {n : Nat} {xs ys : Array Value} {f : Field} {kd : IntKind} {a b : Int} {ds : IntKind} (hn : f.name ≠ "_") (hu : ∀ w, (underlying f.type).run P w = .ok (.int ds) w) (ha : ∀ w, (isAgg f.type).run P w = .ok false w)
    (hx : xs[f.offset]? = some (.int kd a)) (hy : ys[f.offset]? = some (.int kd b)) : EqF P n xs ys f (decide (a = b)) :=
  ⟨hn, fun w => by simp [part, ha, hx, hy, Op.equalIn, hu, beq_dec]⟩
theorem eqf_str {n : Nat} {xs ys : Array Value} {f : Field} {a b : List UInt8} (hn : f.name ≠ "_") (hu : ∀ w, (underlying f.type).run P w = .ok .string w) (ha : ∀ w, (isAgg f.type).run P w = .ok false w)
    (hx : xs[f.offset]? = some (.string (bs a))) (hy : ys[f.offset]? = some (.string (bs b))) : EqF P n xs ys f (decide (a = b)) :=
  ⟨hn, fun w => by
    have e : (bs a == bs b) = decide (a = b) := by
      show (a.toArray == b.toArray) = decide (a = b)
      simp [beq_dec]
    simp [part, ha, hx, hy, Op.equalIn, hu, e]⟩
theorem eqf_bool {n : Nat} {xs ys : Array Value} {f : Field} {a b : Bool} (hn : f.name ≠ "_") (hu : ∀ w, (underlying f.type).run P w = .ok .bool w) (ha : ∀ w, (isAgg f.type).run P w = .ok false w)
    (hx : xs[f.offset]? = some (.bool a)) (hy : ys[f.offset]? = some (.bool b)) : EqF P n xs ys f (a == b) :=
  ⟨hn, fun w => by simp [part, ha, hx, hy, Op.equalIn, hu]⟩
inductive EqFs (P : Program) (n : Nat) (xs ys : Array Value) : List Field → List Bool → Prop where
  | nil : EqFs P n xs ys [] []
  | cons {f : Field} {b : Bool} {fl : List Field} {bl : List Bool} : EqF P n xs ys f b → EqFs P n xs ys fl bl → EqFs P n xs ys (f :: fl) (b :: bl)
def allB : List Bool → Bool
  | [] => true
  | [b] => b
  | b :: c :: r => b && allB (c :: r)
theorem allB_cons (b : Bool) (r : List Bool) : allB (b :: r) = (b && allB r) := by cases r <;> simp [allB]
theorem run_fields {w : World} {n : Nat} {xs ys : Array Value} : ∀ {fl : List Field} {bl : List Bool}, EqFs P n xs ys fl bl →
    (forIn fl ((none, ()) : Option Bool × Unit) (fun f _ =>
      if f.name ≠ "_" then do
        let x ← (do Op.equalIn (n + 1) f.type (← part f.type xs f.offset) (← part f.type ys f.offset))
        if x = false then pure (ForInStep.done (some false, ())) else pure (ForInStep.yield (none, ()))
      else pure (ForInStep.yield (none, ())) : Field → Option Bool × Unit → Sem (ForInStep (Option Bool × Unit)))).run P w = .ok (if allB bl then none else some false, ()) w
  | _, _, .nil => by simp [allB]
  | f :: fl, b :: bl, .cons h hr => by
    have ih := run_fields (w := w) hr
    rw [List.forIn_cons, Sem.run_bind, if_pos h.1, Sem.run_bind, h.2 w, allB_cons]
    cases b with
    | false => simp
    | true => simp only [Result.andThen_ok, if_neg (show ¬ (true = false) by decide), Sem.run_pure, Bool.true_and]; exact ih
theorem run_equalIn_struct {w : World} {T : TypeId} {n : Nat} {fl : List Field} {xs ys : Array Value} {bl : List Bool} (hst : P.stoodInHeld T = false) (hu : ∀ w, (underlying T).run P w = .ok (.struct fl.toArray) w)
    (h : EqFs P n xs ys fl bl) : (Op.equalIn (n + 2) T (.agg xs) (.agg ys)).run P w = .ok (allB bl) w := by
  have key := run_fields (w := w) h
  rw [Op.equalIn]
  simp only [Sem.run_bind, hu, Result.andThen_ok]
  simp [hst]
  simp at key
  rw [key]
  cases hb : allB bl <;> simp
theorem y_eqS {T U : TypeId} {x y : Operand} {fl : List Field} {xs ys : Array Value} {bl : List Bool} (hg : P.eqGuardType P.depth T = false) (hst : P.stoodInHeld T = false) (hu : ∀ w, (underlying T).run P w = .ok (.struct fl.toArray) w)
    (hx : V.ev x = some (.agg xs)) (hy : V.ev y = some (.agg ys)) (h : EqFs P 9998 xs ys fl bl) : OpY P ⟨d, .binOp .eql T x y U, ty, pos, af, g⟩ V H (.bool (allB bl)) := by
  intro ρ w o hf _ _
  have e : (Op.equal T (.agg xs) (.agg ys)).run P w = .ok (allB bl) w := run_equalIn_struct hst hu h
  simp [execOp, hf x _ hx, hf y _ hy, eqGuard, hg, binOp, e]
theorem y_neS {T U : TypeId} {x y : Operand} {fl : List Field} {xs ys : Array Value} {bl : List Bool} (hg : P.eqGuardType P.depth T = false) (hst : P.stoodInHeld T = false) (hu : ∀ w, (underlying T).run P w = .ok (.struct fl.toArray) w)
    (hx : V.ev x = some (.agg xs)) (hy : V.ev y = some (.agg ys)) (h : EqFs P 9998 xs ys fl bl) : OpY P ⟨d, .binOp .neq T x y U, ty, pos, af, g⟩ V H (.bool (!allB bl)) := by
  intro ρ w o hf _ _
  have e : (Op.equal T (.agg xs) (.agg ys)).run P w = .ok (allB bl) w := run_equalIn_struct hst hu h
  simp [execOp, hf x _ hx, hf y _ hy, eqGuard, hg, binOp, e]
end
end Go.Abs
