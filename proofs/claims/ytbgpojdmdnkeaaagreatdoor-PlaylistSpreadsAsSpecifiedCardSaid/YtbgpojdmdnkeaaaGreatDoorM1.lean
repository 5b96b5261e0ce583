/-
  Texts that stand side by side: AbsLift, AbsLift2, AbsLift3, AbsCallX, AbsOps2, AbsNest, AbsCopy, AbsRange, AbsIface, AbsMore2, AbsArrV.
-/
import Derived.Test.YtbgpojdmdnkeaaaGreatDoorM0
import Derived.OrdersHeld
import Derived.MapKept
namespace Go.Abs

def need {α : Type} (p : Prop) [Decidable p] (x : Option α) : Option α := if p then x else none
theorem need_some {α : Type} {p : Prop} [Decidable p] {x : Option α} {r : α} (h : need p x = some r) : p ∧ x = some r := by
  unfold need at h; split at h <;> simp_all
def idx {α β : Type} (l : List α) (i : Int) (k : α → Option β) : Option β :=
  if 0 ≤ i then (match l[i.toNat]? with | some x => k x | none => none) else none
theorem idx_some {α β : Type} {l : List α} {i : Int} {k : α → Option β} {r : β} (h : idx l i k = some r) :
    ∃ x, 0 ≤ i ∧ i.toNat < l.length ∧ l[i.toNat]? = some x ∧ k x = some r := by
  unfold idx at h
  split at h
  · split at h
    · rename_i h0 _ x hx
      exact ⟨x, h0, (List.getElem?_eq_some_iff.1 hx).1, hx, h⟩
    · simp at h
  · simp at h
theorem bind_some {α β : Type} {x : Option α} {k : α → Option β} {r : β} (h : x.bind k = some r) : ∃ a, x = some a ∧ k a = some r := by
  cases x with
  | none => simp at h
  | some a => exact ⟨a, rfl, h⟩
inductive Lp (S R : Type) where
  | go (s : S)
  | stop (r : R)
def bindJ {S R : Type} (x : Option (Lp S R)) (k : S → Option R) : Option R :=
  match x with
  | some (.go s) => k s
  | some (.stop r) => some r
  | none => none
def After {S R : Type} (o : Lp S R) (k : S → Option R) (r : R) : Prop :=
  match o with
  | .go s => k s = some r
  | .stop r' => r' = r
theorem bindJ_some {S R : Type} {x : Option (Lp S R)} {k : S → Option R} {r : R} (h : bindJ x k = some r) : ∃ o, x = some o ∧ After o k r := by
  cases x with
  | none => simp [bindJ] at h
  | some o => cases o with
    | go s => exact ⟨_, rfl, h⟩
    | stop r' => exact ⟨_, rfl, Option.some.inj h⟩
def iter {S R : Type} (step : S → Option (Lp S R)) : Nat → S → Option R
  | 0, _ => none
  | n + 1, s => match step s with
    | some (.go s') => iter step n s'
    | some (.stop r) => some r
    | none => none
theorem cond_t {α : Type} {b : Bool} {x y : Option α} {r : α} (h : cond b x y = some r) (hb : b = true) : x = some r := by subst hb; exact h
theorem cond_f {α : Type} {b : Bool} {x y : Option α} {r : α} (h : cond b x y = some r) (hb : b = false) : y = some r := by subst hb; exact h
theorem some_eq {α : Type} {a b : α} (h : some a = some b) : a = b := Option.some.inj h

variable {E : Env} {k : List KI} {V : VF} {H : List HA}

/-- a loop, as its lifted round says -/
theorem run_iter {S R G : Type} {step : S → Option (Lp S R)} {n : Nat} {s0 : S} {out : R} (h : iter step n s0 = some out) {c : Code} (g0 : G) (Vi : S → G → List (Nat × Value)) (Hi : S → G → List HA) (is : List Nat)
    (hl : ∀ x ∈ Vi s0 g0, V x.1 = some x.2) (hn : is.Nodup) (hG : Picks is H (Hi s0 g0))
    (round : ∀ s g o, step s = some o → ∀ L : Act → World → Prop, (∀ s' g', o = .go s' → ∀ a w, Rel E (VF.of (Vi s' g')) (Hi s' g') a w → L a w) → (∀ r, o = .stop r → r = out) →
      Run E c (.loop L :: k) (VF.of (Vi s g)) (Hi s g)) : Run E (.loop c) k V H := by
  refine run_loop ((Nat × S) × G) (fun x => Vi x.1.2 x.2) (fun x => Hi x.1.2 x.2) (fun x => iter step x.1.1 x.1.2 = some out) (fun x => x.1.1) is ((n, s0), g0) hl hn hG h ?_
  rintro ⟨⟨n, s⟩, g⟩ hi L hL
  cases n with
  | zero => simp [iter] at hi
  | succ n =>
    simp only [iter] at hi
    cases hs : step s with
    | none => rw [hs] at hi; simp at hi
    | some o =>
      rw [hs] at hi
      refine round s g o hs L (fun s' g' ho a w hr => hL ((n, s'), g') ?_ (Nat.lt_succ_self n) a w hr) (fun r ho => ?_)
      · subst ho; exact hi
      · subst ho; simpa using hi
theorem goes_iter {L : Act → World → Prop} {S R G : Type} {o : Lp S R} {Vi : S → G → List (Nat × Value)} {Hi : S → G → List HA}
    (hL : ∀ s' g', o = .go s' → ∀ a w, Rel E (VF.of (Vi s' g')) (Hi s' g') a w → L a w) (s' : S) (g' : G) (is : List Nat) (ho : o = .go s')
    (hl : ∀ x ∈ Vi s' g', V x.1 = some x.2) (hn : is.Nodup) (hG : Picks is H (Hi s' g')) : Goes E (.loop L :: k) V H :=
  fun a w r => hL s' g' ho a w ((r.vle (VF.le_of _ hl)).pick hn hG)

/-! the ways through a part of a region meet again -/
theorem uponIn_then {F : Fence} {n : Nat} {P : Program} {o : Oper} {a : Act} {L next next' : Act → World → Prop} {Q : Exit → Act → World → Prop} (hn : ∀ a w, next a w → next' a w) {r : Result Next}
    (h : o.uponIn F n P a next (Exit.then L Q) r) : o.uponIn F n P a next' Q r := by
  cases r with
  | ok x w' =>
    cases x <;> simp only [Oper.uponIn] at h ⊢ <;>
      first
        | exact hn _ _ h
        | exact ⟨h.1, CallsIn.mono h.2 (fun e w'' he => by cases e <;> first | exact hn _ _ he | exact he)⟩
        | exact ⟨h.1, RowsIn.mono h.2 (fun _ _ he => hn _ _ he)⟩
        | exact ⟨h.1, RoundIn.mono h.2 (fun e w'' he => by cases e <;> first | exact hn _ _ he | exact he)⟩
  | halt x w' => cases x <;> simp only [Oper.uponIn] at h ⊢ <;> exact h
theorem wpListIn_append {P : Program} {ops : Array Oper} {Q : Exit → Act → World → Prop} {r : Option Nat} {l2 : List Oper} : ∀ (l1 : List Oper) {a : Act} {w : World},
    wpListIn (FR r) 0 P ops (Exit.then (fun a w => wpListIn (FR r) 0 P ops Q l2 a w) Q) l1 a w → wpListIn (FR r) 0 P ops Q (l1 ++ l2) a w
  | [], a, w, h => h
  | o :: l1, a, w, h => by
    simp only [List.cons_append]
    unfold wpListIn at h ⊢
    split
    · rename_i hw
      rw [if_pos hw] at h
      exact ⟨h.1, uponIn_then (fun a w h => wpListIn_append l1 h) h.2⟩
    · rename_i hw
      rw [if_neg hw] at h
      exact ⟨h.1, wpListIn_append l1 h.2⟩
theorem ops_cut {ops : Array Oper} {l : List Oper} (m : Nat) (S : Type) (Vi : S → List (Nat × Value)) (Hi : S → List HA) (inv : S → Prop)
    (h1 : ∀ L : Act → World → Prop, (∀ s, inv s → ∀ a w, Rel E (VF.of (Vi s)) (Hi s) a w → L a w) → Ops E ops (l.take m) (.loop L :: k) V H)
    (h2 : ∀ s, inv s → Ops E ops (l.drop m) k (VF.of (Vi s)) (Hi s)) : Ops E ops l k V H := by
  intro a w r
  have h := h1 (fun a w => wpListIn (FR E.r) 0 E.P ops (Qof E k) (l.drop m) a w) (fun s hi a w hr => h2 s hi a w hr) a w r
  have := wpListIn_append (l.take m) h
  rwa [List.take_append_drop] at this
theorem wpStill_append {P : Program} {ops : Array Oper} {w : World} {Q : Act → Prop} {l2 : List Oper} : ∀ (l1 : List Oper) {a : Act},
    wpStill P ops w (wpStill P ops w Q l2) l1 a → wpStill P ops w Q (l1 ++ l2) a
  | [], _, h => h
  | o :: l1, a, h => by
    simp only [List.cons_append]
    unfold wpStill at h ⊢
    have e : wpStill P ops w (wpStill P ops w Q l2) l1 = wpStill P ops w Q (l1 ++ l2) := by
      clear h
      induction l1 with
      | nil => rfl
      | cons x l1 ih => funext a; simp only [List.cons_append, wpStill, ih]
    rw [e] at h
    exact h
theorem still_cut {ops : Array Oper} {l : List Oper} (m : Nat) (S : Type) (Vi : S → List (Nat × Value)) (Hi : S → List HA) (inv : S → Prop)
    (h1 : ∀ L : Act → World → Prop, (∀ s, inv s → ∀ a w, Rel E (VF.of (Vi s)) (Hi s) a w → L a w) → StillL E ops (l.take m) (.loop L :: k) V H)
    (h2 : ∀ s, inv s → StillL E ops (l.drop m) k (VF.of (Vi s)) (Hi s)) : StillL E ops l k V H := by
  intro a w r
  have h := h1 (fun a w => wpStill E.P ops w (fun a' => Qof E k .normal a' w) (l.drop m) a) (fun s hi a w hr => h2 s hi a w hr) a w r
  have := wpStill_append (l.take m) h
  rwa [List.take_append_drop] at this

/-! indexes as integers -/
section
variable {P : Program} {d : Option Nat} {ty : TypeId} {pos : String} {af : Array Edge} {g : Option (Nat × Bool)}
theorem toNat_int {i : Int} (h : 0 ≤ i) : i = ((i.toNat : Nat) : Int) := by omega
theorem y_indexAddrI {T el : TypeId} {x y : Operand} {v : Value} {kd : IntKind} {i : Int} {es : Nat} {cells : List (List Value)} {h : HA} (m : Nat) (hu : ∀ w, (underlying T).run P w = .ok (.slice el) w)
    (hz : ∀ w, (sizeOf el).run P w = .ok es w) (hx : V.ev x = some v) (hy : V.ev y = some (.int kd i)) (hm : H[m]? = some h) (hr : Reads h v es cells) (h0 : 0 ≤ i) (hn : i.toNat < cells.length) :
    OpY P ⟨d, .indexAddr T x y, ty, pos, af, g⟩ V H (elemP v (i.toNat * es)) := by
  refine y_indexAddr (kd := kd) (n := i.toNat) m hu hz hx ?_ hm hr hn
  rw [hy, ← toNat_int h0]
theorem y_index_strI {T : TypeId} {x y : Operand} {kd : IntKind} {i : Int} {l : List UInt8} {b : UInt8} (hu : ∀ w, (underlying T).run P w = .ok .string w) (hx : V.ev x = some (.string (bs l)))
    (hy : V.ev y = some (.int kd i)) (h0 : 0 ≤ i) (hb : l[i.toNat]? = some b) : OpY P ⟨d, .index T x y, ty, pos, af, g⟩ V H (.int .u8 b.toNat) := by
  refine y_index_str (kd := kd) (n := i.toNat) hu hx ?_ hb
  rw [hy, ← toNat_int h0]
theorem map_get {α : Type} {F : α → List Value} {l : List α} {i : Nat} {x : α} (h : l[i]? = some x) : (l.map F)[i]? = some (F x) := by rw [List.getElem?_map, h]; rfl
theorem map_lt {α : Type} {F : α → List Value} {l : List α} {i : Nat} (h : i < l.length) : i < (l.map F).length := by simpa using h
theorem map_ok {α : Type} {F : α → List Value} {n : Nat} (hF : ∀ x, (F x).length = n ∧ ∀ u ∈ F x, u.oneCell' = true) (l : List α) : ∀ c ∈ l.map F, c.length = n ∧ ∀ u ∈ c, u.oneCell' = true := by
  intro c hc
  obtain ⟨x, _, rfl⟩ := List.mem_map.1 hc
  exact hF x
theorem map_room {α : Type} {F : α → List Value} {l m : List α} {b : Nat} (h : l.length + m.length ≤ 4294967296) (hb : b ≤ 16384) : (2 * ((l.map F).length + (m.map F).length) + 1000) * b ≤ 2 ^ 48 := by
  have h1 : (2 * ((l.map F).length + (m.map F).length) + 1000) ≤ 8589935592 := by simp only [List.length_map]; omega
  calc (2 * ((l.map F).length + (m.map F).length) + 1000) * b ≤ 8589935592 * 16384 := Nat.mul_le_mul h1 hb
    _ ≤ 2 ^ 48 := by decide
theorem map_fit {α : Type} {F : α → List Value} {l m : List α} (h : l.length + m.length ≤ 4294967296) : (l.map F).length + (m.map F).length ≤ maxLen := by
  simp only [List.length_map]; unfold maxLen; omega
theorem v_len {α : Type} (F : α → List Value) (l : List α) : Value.int .i64 ((l.map F).length : Nat) = .int .i64 (l.length : Int) := by simp

/-! structs built, structs compared -/
def FS (P : Program) (fl : List Field) (pl : List (Nat × Nat)) : Prop :=
  ∀ w, (fl.mapM (fun (f : Field) => (do pure (f.offset, ← sizeOf f.type) : Sem (Nat × Nat)))).run P w = .ok pl w
theorem fs_nil : FS P [] [] := fun w => by simp
theorem fs_cons {f : Field} {n : Nat} {r : List Field} {pl : List (Nat × Nat)} (hz : ∀ w, (sizeOf f.type).run P w = .ok n w) (hr : FS P r pl) : FS P (f :: r) ((f.offset, n) :: pl) := by
  intro w
  have := hr w
  simp only [bind_pure_comp] at this ⊢
  simp [List.mapM_cons, hz, this]
def fillC (place : Nat → Option (Nat × Nat)) (cells : Array Value) : List (Nat × List Value) → Option (Array Value)
  | [] => some cells
  | (i, c) :: rest =>
    match place i with
    | none => none
    | some (off, size) =>
      if c.length ≠ size || off + c.length > cells.size then none
      else fillC place (writeAt cells off c) rest
theorem fill_fillC (place : Nat → Option (Nat × Nat)) : ∀ (vs : List (Nat × Value)) (cells : Array Value), Instr.fill place cells vs = fillC place cells (vs.map fun p => (p.1, p.2.cells.toList))
  | [], cells => rfl
  | (i, v) :: rest, cells => by
    simp only [Instr.fill, List.map_cons, fillC]
    cases place i with
    | none => rfl
    | some p =>
      obtain ⟨off, size⟩ := p
      simp only [Array.length_toList]
      split
      · rfl
      · have e : v.cells.zipIdx.foldl (fun cs (x : Value × Nat) => cs.setIfInBounds (off + x.2) x.1) cells = writeAt cells off v.cells.toList := by
          rw [← Array.foldl_toList, Array.toList_zipIdx]
          exact foldl_write off v.cells.toList 0 cells
        rw [e]
        exact fill_fillC place rest _
theorem y_build_struct {T : TypeId} {parts : Array (Nat × Operand)} {z : Value} {fl : List Field} {pl : List (Nat × Nat)} {cells : Array Value} (vs : List (Nat × Value)) (cs : List (Nat × List Value)) (h0 : ∀ w, (zeroValue T).run P w = .ok z w)
    (hu : ∀ w, (underlying T).run P w = .ok (.struct fl.toArray) w) (hF : FS P fl pl) (hp : parts.toList.map (fun p => (p.1, V.ev p.2)) = vs.map (fun p => (p.1, some p.2)))
    (hcs : vs.map (fun p => (p.1, p.2.cells.toList)) = cs) (hc : fillC (fun i => pl.toArray[i]?) z.cells cs = some cells) : OpY P ⟨d, .build T parts, ty, pos, af, g⟩ V H (.agg cells) := by
  intro ρ w o hf _ hs
  have hpv := parts_eq (V := V) (ρ := ρ) (fun x v h => hf x v h) _ _ hp
  have hm := hF w
  rw [← hcs, ← fill_fillC] at hc
  simp only [bind_pure_comp] at hm
  simp only [List.getElem?_toArray] at hc
  simp [execOp, Instr.build, hu, h0, hpv, hm, hc]

def EqF (P : Program) (n : Nat) (xs ys : Array Value) (f : Field) (b : Bool) : Prop :=
  f.name ≠ "_" ∧ ∀ w, (do Op.equalIn (n + 1) f.type (← part f.type xs f.offset) (← part f.type ys f.offset)).run P w = .ok b w
theorem eqf_int {n : Nat} {xs ys : Array Value} {f : Field} {kd : IntKind} {a b : Int} {ds : IntKind} (hn : f.name ≠ "_") (hu : ∀ w, (underlying f.type).run P w = .ok (.int ds) w) (ha : ∀ w, (isAgg f.type).run P w = .ok false w)
    (hx : xs[f.offset]? = some (.int kd a)) (hy : ys[f.offset]? = some (.int kd b)) : EqF P n xs ys f (decide (a = b)) :=
  ⟨hn, fun w => by simp [part, ha, hx, hy, Op.equalIn, hu, beq_dec]⟩
inductive EqFs (P : Program) (n : Nat) (xs ys : Array Value) : List Field → List Bool → Prop where
  | nil : EqFs P n xs ys [] []
  | cons {f : Field} {b : Bool} {fl : List Field} {bl : List Bool} : EqF P n xs ys f b → EqFs P n xs ys fl bl → EqFs P n xs ys (f :: fl) (b :: bl)
def allB : List Bool → Bool
  | [] => true
  | [b] => b
  | b :: c :: r => b && allB (c :: r)
theorem allB_cons (b : Bool) (r : List Bool) : allB (b :: r) = (b && allB r) := by cases r <;> simp [allB]
theorem run_fields {w : World} {n : Nat} {xs ys : Array Value} : ∀ {fl : List Field} {bl : List Bool}, EqFs P n xs ys fl bl →
    (forIn fl ((none, ()) : Option Bool × Unit) (fun f _ =>
      if f.name ≠ "_" then do
        let x ← (do Op.equalIn (n + 1) f.type (← part f.type xs f.offset) (← part f.type ys f.offset))
        if x = false then pure (ForInStep.done (some false, ())) else pure (ForInStep.yield (none, ()))
      else pure (ForInStep.yield (none, ())) : Field → Option Bool × Unit → Sem (ForInStep (Option Bool × Unit)))).run P w = .ok (if allB bl then none else some false, ()) w
  | _, _, .nil => by simp [allB]
  | f :: fl, b :: bl, .cons h hr => by
    have ih := run_fields (w := w) hr
    rw [List.forIn_cons, Sem.run_bind, if_pos h.1, Sem.run_bind, h.2 w, allB_cons]
    cases b with
    | false => simp
    | true => simp only [Result.andThen_ok, if_neg (show ¬ (true = false) by decide), Sem.run_pure, Bool.true_and]; exact ih
theorem run_equalIn_struct {w : World} {T : TypeId} {n : Nat} {fl : List Field} {xs ys : Array Value} {bl : List Bool} (hst : P.stoodInHeld T = false) (hu : ∀ w, (underlying T).run P w = .ok (.struct fl.toArray) w)
    (h : EqFs P n xs ys fl bl) : (Op.equalIn (n + 2) T (.agg xs) (.agg ys)).run P w = .ok (allB bl) w := by
  have key := run_fields (w := w) h
  rw [Op.equalIn]
  simp only [Sem.run_bind, hu, Result.andThen_ok]
  simp [hst]
  simp at key
  rw [key]
  cases hb : allB bl <;> simp
theorem y_neS {T U : TypeId} {x y : Operand} {fl : List Field} {xs ys : Array Value} {bl : List Bool} (hg : P.eqGuardType P.depth T = false) (hst : P.stoodInHeld T = false) (hu : ∀ w, (underlying T).run P w = .ok (.struct fl.toArray) w)
    (hx : V.ev x = some (.agg xs)) (hy : V.ev y = some (.agg ys)) (h : EqFs P 9998 xs ys fl bl) : OpY P ⟨d, .binOp .neq T x y U, ty, pos, af, g⟩ V H (.bool (!allB bl)) := by
  intro ρ w o hf _ _
  have e : (Op.equal T (.agg xs) (.agg ys)).run P w = .ok (allB bl) w := run_equalIn_struct hst hu h
  simp [execOp, hf x _ hx, hf y _ hy, eqGuard, hg, binOp, e]
end
end Go.Abs
namespace Go.Abs
theorem after_go {S R : Type} {s : S} {k : S → Option R} {r : R} (h : After (.go s) k r) : k s = some r := h
theorem after_stop {S R : Type} {e : R} {k : S → Option R} {r : R} (h : After (.stop e) k r) : e = r := h
def eInt (k : IntKind) (n : Int) : List Value := [.int k n]
theorem eInt_ok (k : IntKind) (n : Int) : (eInt k n).length = 1 ∧ ∀ u ∈ eInt k n, u.oneCell' = true := ⟨rfl, fun u h => by simp [eInt] at h; subst h; rfl⟩
def eB8 (b : UInt8) : List Value := [.int .u8 b.toNat]
theorem eB8_ok (n : UInt8) : (eB8 n).length = 1 ∧ ∀ u ∈ eB8 n, u.oneCell' = true := ⟨rfl, fun u h => by simp [eB8] at h; subst h; rfl⟩
def eBool (b : Bool) : List Value := [.bool b]
def eStr (b : List UInt8) : List Value := [.string (bs b)]
theorem map_set_at {α : Type} {F : α → List Value} {l : List α} {i : Nat} {c : List Value} {y : α} (h : c = F y) : (l.map F).set i c = (l.set i y).map F := by rw [h, List.map_set]

variable {E : Env} {k : List KI} {V : VF} {H : List HA}
section
variable {P : Program} {d : Option Nat} {ty : TypeId} {pos : String} {af : Array Edge} {g : Option (Nat × Bool)}
theorem wrL_length (c : List Value) (j : Nat) (ys : List Value) : (wrL c j ys).length = c.length := by simp [wrL, size_writeAt]
theorem wrL_get (c : List Value) (j : Nat) (ys : List Value) (m : Nat) (h : j + ys.length ≤ c.length) : (wrL c j ys)[m]? = if j ≤ m ∧ m < j + ys.length then ys[m - j]? else c[m]? := by
  have := get_writeAt ys c.toArray j m (by simpa using h)
  simpa [wrL] using this
/-- a store into an element of a row of the call's own -/
theorem t_store_row {T : TypeId} {x y : Operand} {v r : Value} {es i j n : Nat} {c : List Value} {cells : List (List Value)} (m : Nat) (hz : ∀ w, (sizeOf T).run P w = .ok n w) (hx : V.ev x = some (elemP v (i * es + j))) (hy : V.ev y = some r)
    (hm : H[m]? = some (row v es cells)) (hn : r.cells.size = n) (hc : cells[i]? = some c) (hl : Nat.ble (j + n) es = true) (h1 : ∀ u ∈ r.cells.toList, u.oneCell' = true) :
    OpT P ⟨d, .store T x y, ty, pos, af, g⟩ V H (fun v' H' => v' = undef ∧ H' = H.set m (row v es (cells.set i (wrL c j r.cells.toList)))) := by
  intro ρ w o hf hbd hs
  have hle : j + n ≤ es := Nat.le_of_ble_eq_true hl
  rcases hs m _ hm with ⟨_, h0⟩ | ⟨b, off, cap, arr, T', fz, e1, e2, e3, e4, e5, e6, e7, e8, e9, e10⟩
  · rw [h0] at hc; simp at hc
  have hlt : i < cells.length := (List.getElem?_eq_some_iff.1 hc).1
  have hce := e9 c (List.mem_of_getElem? hc)
  have hroom : off + (i * es + j) + r.cells.toList.length ≤ arr.size := by
    rw [e6, Array.length_toList, hn]
    have : (i + 1) * es ≤ cap * es := Nat.mul_le_mul_right _ (by omega)
    rw [Nat.succ_mul] at this; omega
  obtain ⟨w', h2, h3⟩ := run_storeCells (P := P) r.cells.toList 0 arr w e4 e5 (off := off + (i * es + j)) (by omega) h1
  have hrun : (execOp ρ ⟨d, .store T x y, ty, pos, af, g⟩).run P w = .ok .skip w' := by
    subst e1
    simp [execOp, hf x _ hx, hf y _ hy, Instr.storeAt, Instr.sureAddr, elemP, Value.sbase, storeVar, hz, hn, h2]
  unfold Does
  rw [hrun]
  refine ⟨_, o, ⟨rfl, rfl⟩, fun b' hb' => hbd b' (by rw [h3.size] at hb'; exact hb'), ⟨h3.os, h3.tape, h3.output, by rw [h3.size]; exact Nat.le_refl _, fun b' hlt hb' => ⟨hb', h3.other b' ?_⟩, fun b' hlt hb' => ⟨hb', h3.other b' ?_⟩⟩, ?_⟩
  · rintro rfl; rw [e2] at hb'; cases hb'
  · rintro rfl; rw [e2] at hb'; cases hb'
  · refine sats_upd (by rw [h3.size]; exact Nat.le_refl _) (fun b' hlt hb' => ⟨rfl, h3.other b' ?_⟩) hs (.inr ⟨b, off, cap, _, T', fz, by rw [List.length_set]; exact e1, e2, by rw [h3.size]; exact e3, h3.here, by rw [size_writeAt]; exact e5, by rw [size_writeAt]; exact e6,
      by rw [List.length_set]; exact e7, e8, ?_, ?_⟩)
    · rintro rfl; exact hb' e2
    · intro c' hc'
      rcases List.mem_or_eq_of_mem_set hc' with h | rfl
      · exact e9 c' h
      · rw [wrL_length]; exact hce
    · intro i' c' hi' j' x' hj'
      rw [Nat.add_zero, get_writeAt _ _ _ _ hroom]
      rw [Array.length_toList, hn]
      by_cases hii : i = i'
      · subst hii
        rw [List.getElem?_set_self hlt] at hi'
        simp at hi'
        subst hi'
        rw [wrL_get _ _ _ _ (by rw [Array.length_toList, hn, hce]; exact hle), Array.length_toList, hn] at hj'
        by_cases hjj : j ≤ j' ∧ j' < j + n
        · rw [if_pos hjj] at hj'
          rw [if_pos (by omega)]
          rw [← hj']; congr 1; omega
        · rw [if_neg hjj] at hj'
          rw [if_neg (by omega)]
          exact e10 i c hc j' x' hj'
      · rw [List.getElem?_set_ne hii] at hi'
        have hjl : j' < es := by
          have h1 := (List.getElem?_eq_some_iff.1 hj').1
          rw [e9 c' (List.mem_of_getElem? hi')] at h1; exact h1
        have : ¬ (off + (i * es + j) ≤ off + i' * es + j' ∧ off + i' * es + j' < off + (i * es + j) + n) := by
          rintro ⟨ha, hb⟩
          rcases Nat.lt_or_ge i i' with h | h
          · have : (i + 1) * es ≤ i' * es := Nat.mul_le_mul_right _ h
            rw [Nat.succ_mul] at this; omega
          · have : (i' + 1) * es ≤ i * es := Nat.mul_le_mul_right _ (by omega)
            rw [Nat.succ_mul] at this; omega
        rw [if_neg this]
        exact e10 i' c' hi' j' x' hj'
end

/-! a region whose order is open -/
def SH (E : Env) (Hs : List HA) (w : World) : Prop := ∃ o, Bnd w o ∧ Tr E.w0 E.o0 w o ∧ Sats w o Hs
def Sub (H Hs : List HA) : Prop := ∀ (j : Nat) (h : HA), Hs[j]? = some h → (∀ w o k, h.p w o k) ∨ H[j]? = some h
theorem sub_nil {H : List HA} : Sub H [] := fun j h hj => by simp at hj
theorem sub_same {H Hs : List HA} {h : HA} (r : Sub H Hs) : Sub (h :: H) (h :: Hs) := fun j x hj => by
  cases j with
  | zero => exact .inr hj
  | succ j => exact r j x hj
theorem sub_emp {H Hs : List HA} {h : HA} (r : Sub H Hs) : Sub (h :: H) (HA.emp :: Hs) := fun j x hj => by
  cases j with
  | zero => simp at hj; subst hj; exact .inl fun _ _ _ => trivial
  | succ j => exact r j x hj
theorem Sub.sats {Hs : List HA} {w : World} {o : Own} (h : Sub H Hs) (hs : Sats w o H) : Sats w o Hs := fun j x hj => (h j x hj).elim (fun h => h w o j) (fun h => hs j x h)
def AnyL (E : Env) (ops : Array Oper) (listed : Array Bool) (fuel : Nat) (k : List KI) (V : VF) (H Hs : List HA) : Prop :=
  ∀ a w, Rel E V H a w → wpAnyI E.r E.P ops (Qof E k) (SH E Hs) fuel listed a w
def AnyO (E : Env) (ops : Array Oper) (listed : Array Bool) (fuel : Nat) (k : List KI) (V : VF) (H Hs : List HA) (i : Nat) : Prop :=
  ∀ a w, Rel E V H a w → wpOpI E.r E.P ops (Qof E k) i (fun a' w' => SH E Hs w' ∧ wpAnyI E.r E.P ops (Qof E k) (SH E Hs) fuel (listed.setIfInBounds i true) a' w') a w

theorem Qof_panic (hbl : E.blind = true) {d : Option Nat} {v : Value} : ∀ (k : List KI) (c : List PanicEntry) (a : Act) (w : World), Qof E k (.panic c) (a.put d v) w → Qof E k (.panic c) a w
  | [], c, a, w, h => E.np hbl c a d v w h
  | .code _ :: k, c, a, w, h => Qof_panic hbl k c a w h
  | .blk _ :: k, c, a, w, h => Qof_panic hbl k c a w h
  | .scope :: k, c, a, w, h => Qof_panic hbl k c a w h
  | .loop _ :: k, c, a, w, h => Qof_panic hbl k c a w h

theorem run_drawany {id : Nat} {l : List Oper} (Hs : List HA) (hm : E.P.follows .mixedOrders = true) (h : AnyL E l.toArray (Array.replicate l.length false) l.length k V H Hs) (hnd : noDef E.r l.toArray = true := by exact rfl) : Run E (.region id l.toArray true) k V H := by
  intro a w r
  refine wpAnyI_in (S := SH E Hs) hnd hm ?_
  have := h a _ r.drew
  simpa using this

variable {ops : Array Oper} {op : Oper} {listed : Array Bool} {fuel : Nat} {Hs : List HA}
theorem any_y {v : Value} (i : Nat) (hi : ops[i]? = some op) (hs : Region.noSelect ops = true) (hf : Region.free .any ops listed i = true) (hr : (Region.ready .any ops listed).contains i = true) (hsub : Sub H Hs)
    (hw : Wants E.n ops V op) (hd : inB E.n op.dst = true) (h : OpY E.P op V Hs v) (hk : AnyL E ops (listed.setIfInBounds i true) fuel k (V.put op.dst v) H Hs) (hbl : E.blind = true := by exact rfl) : AnyL E ops listed (fuel + 1) k V H Hs := by
  intro a w r
  have hS : SH E Hs w := by
    obtain ⟨_, _, _, o, hb, ht, hst⟩ := r
    exact ⟨o, hb, ht.tr, hsub.sats hst⟩
  refine wpAnyI_take hi hs hf hr (fun c a w hq => Qof_panic hbl k c a w hq) (.inl ⟨hw.wanted r, fun w' ⟨o, hb, ht, hst⟩ => h a.eval w' o r.fits hb hst⟩) hS ?_
  obtain ⟨h1, h2, h3, o, hb, ht, hst⟩ := r
  exact hk _ w (Rel.put h1 h2 h3 hd hb ht (Tr.refl w o) hst)
theorem any_no (i : Nat) (hi : ops[i]? = some op) (hs : Region.noSelect ops = true) (hf : Region.free .any ops listed i = true) (hr : (Region.ready .any ops listed).contains i = true) (hsub : Sub H Hs)
    (j : Nat) (b : Bool) (t : Nat) (hg : op.guard = some (j, b)) (hj : ((ops[j]?).bind (·.dst)) = some t) (hv : V t = some (.bool (!b))) (ht : Nat.blt t E.n = true) (hd : inB E.n op.dst = true)
    (hk : AnyL E ops (listed.setIfInBounds i true) fuel k (V.put op.dst undef) H Hs) (hbl : E.blind = true := by exact rfl) : AnyL E ops listed (fuel + 1) k V H Hs := by
  intro a w r
  have hS : SH E Hs w := by
    obtain ⟨_, _, _, o, hb, ht, hst⟩ := r
    exact ⟨o, hb, ht.tr, hsub.sats hst⟩
  have h2 := getD_some r.1 ht (r.2.2.1 t _ hv)
  refine wpAnyI_take hi hs hf hr (fun c a w hq => Qof_panic hbl k c a w hq) (.inr ⟨by cases b <;> simp [Region.wanted, hg, yielded, hj, h2], rfl⟩) hS ?_
  obtain ⟨h1, h2, h3, o, hb, ht, hst⟩ := r
  exact hk _ w (Rel.put h1 h2 h3 hd hb ht (Tr.refl w o) hst)
theorem any_all (rs : List Nat) (hr : Region.ready .any ops listed = rs) (hne : rs.isEmpty = false) (h : ∀ i ∈ rs, AnyO E ops listed fuel k V H Hs i) : AnyL E ops listed (fuel + 1) k V H Hs := by
  intro a w r
  exact wpAnyI_all hr (by rintro rfl; simp at hne) fun i hi => h i hi a w r
theorem anyo_nil : ∀ i ∈ ([] : List Nat), AnyO E ops listed fuel k V H Hs i := fun i hi => by simp at hi
theorem anyo_cons {i : Nat} {rs : List Nat} (h : AnyO E ops listed fuel k V H Hs i) (hr : ∀ j ∈ rs, AnyO E ops listed fuel k V H Hs j) : ∀ j ∈ i :: rs, AnyO E ops listed fuel k V H Hs j := by
  intro j hj
  rcases List.mem_cons.1 hj with rfl | hj
  · exact h
  · exact hr j hj
theorem any_t {post : Post} {i : Nat} (hi : ops[i]? = some op) (hw : Wants E.n ops V op) (hd : inB E.n op.dst = true) (h : OpT E.P op V H post)
    (hk : ∀ v H', post v H' → Sub H' Hs ∧ AnyL E ops (listed.setIfInBounds i true) fuel k (V.put op.dst v) H' Hs) : AnyO E ops listed fuel k V H Hs i := by
  intro a w r
  unfold wpOpI
  simp only [hi]
  rw [if_pos (hw.wanted r)]
  have hf := r.fits
  obtain ⟨h1, h2, h3, o, hb, ht, hs⟩ := r
  have := h a.eval w o hf hb hs
  unfold Does at this
  generalize (execOp a.eval op).run E.P w = x at *
  cases x with
  | halt x w' => simp at this
  | ok nx w' =>
    cases nx <;> simp only [Oper.uponIn] at this ⊢
    case value v =>
      obtain ⟨H', o', hp, hb', ht', hs'⟩ := this
      exact ⟨⟨o', hb', ht.tr.trans ht', (hk v H' hp).1.sats hs'⟩, (hk v H' hp).2 _ _ (Rel.put h1 h2 h3 hd hb' ht ht' hs')⟩
    case skip =>
      obtain ⟨H', o', hp, hb', ht', hs'⟩ := this
      exact ⟨⟨o', hb', ht.tr.trans ht', (hk _ H' hp).1.sats hs'⟩, (hk _ H' hp).2 _ _ (Rel.put h1 h2 h3 hd hb' ht ht' hs')⟩
    case enter f args =>
      refine ⟨(fun h => nomatch h), CallsIn.mono (F := FR E.r) (callsIn_wide.2 this) ?_⟩
      rintro e w'' ⟨v, rfl, H', o', hp, hb', ht', hs'⟩
      exact ⟨⟨o', hb', ht.tr.trans ht', (hk v H' hp).1.sats hs'⟩, (hk v H' hp).2 _ _ (Rel.put h1 h2 h3 hd hb' ht ht' hs')⟩
theorem any_r {post : Post} {i : Nat} (hi : ops[i]? = some op) (hw : Wants E.n ops V op) (hd : inB E.n op.dst = true) (h : OpR E.P op V H post)
    (hk : ∀ v H', post v H' → Sub H' Hs ∧ AnyL E ops (listed.setIfInBounds i true) fuel k (V.put op.dst v) H' Hs) : AnyO E ops listed fuel k V H Hs i := by
  intro a w r
  unfold wpOpI
  simp only [hi]
  rw [if_pos (hw.wanted r)]
  have hf := r.fits
  obtain ⟨h1, h2, h3, o, hb, ht, hs⟩ := r
  obtain ⟨l, f, tmps, assign, body, e, hr⟩ := h.2 a.eval w o hf hb hs
  rw [e]
  refine ⟨(fun h => nomatch h), RoundIn.mono (F := FR E.r) hr ?_⟩
  rintro e w'' ⟨v, rfl, H', o', hp, hb', ht', hs'⟩
  exact ⟨⟨o', hb', ht.tr.trans ht', (hk v H' hp).1.sats hs'⟩, (hk v H' hp).2 _ _ (Rel.put h1 h2 h3 hd hb' ht ht' hs')⟩
theorem any_nil (hr : Region.ready .any ops listed = []) (h : Goes E k V H) : AnyL E ops listed fuel k V H Hs := fun a w r => wpAnyI_done hr (h a w r) fuel
theorem any_turn {H' : List HA} (h : Turn H H') (hk : AnyL E ops listed fuel k V H' Hs) : AnyL E ops listed fuel k V H Hs := fun a w r => hk a w (r.turn h)
theorem any_split (t : Nat) (b : Bool) (hv : V t = some (.bool b)) (ht : b = true → AnyL E ops listed fuel k (V.set t (.bool true)) H Hs)
    (hf : b = false → AnyL E ops listed fuel k (V.set t (.bool false)) H Hs) : AnyL E ops listed fuel k V H Hs := by
  have same : ∀ c, b = c → ∀ a, Agree V a → Agree (V.set t (.bool c)) a := by
    intro c hc a ha u x hx
    rcases VF.set_eq hx with ⟨rfl, rfl⟩ | ⟨_, hx⟩
    · exact hc ▸ ha u _ hv
    · exact ha u x hx
  intro a w r
  cases hb : b with
  | true => exact ht hb a w ⟨r.1, r.2.1, same _ hb a r.2.2.1, r.2.2.2⟩
  | false => exact hf hb a w ⟨r.1, r.2.1, same _ hb a r.2.2.1, r.2.2.2⟩
end Go.Abs
namespace Go.Abs
variable {E : Env} {k : List KI} {V : VF} {H : List HA}
end Go.Abs
namespace Go.Abs
variable {E : Env} {k : List KI} {V : VF} {H : List HA} {ops : Array Oper} {listed : Array Bool} {fuel : Nat} {Hs : List HA}
theorem anyo_turn {H' : List HA} {i : Nat} (h : Turn H H') (hk : AnyO E ops listed fuel k V H' Hs i) : AnyO E ops listed fuel k V H Hs i := fun a w r => hk a w (r.turn h)
end Go.Abs
namespace Go.Abs
variable {E : Env} {k : List KI} {V : VF} {H : List HA} {ops : Array Oper} {listed : Array Bool} {fuel : Nat} {Hs : List HA}
theorem any_weak {listed' : Array Bool} (l : List (Nat × Value)) (is : List Nat) (G : List HA) (hL : listed = listed') (hl : ∀ x ∈ l, V x.1 = some x.2) (hn : is.Nodup) (hG : Picks is H G)
    (h : AnyL E ops listed' fuel k (VF.of l) G Hs) : AnyL E ops listed fuel k V H Hs := by
  subst hL
  exact fun a w r => h a w ((r.vle (VF.le_of l hl)).pick hn hG)
theorem any_cut {fuel0 : Nat} {listed0 : Array Bool} (listed : Array Bool) (fuel : Nat) (S : Type) (Vi : S → List (Nat × Value)) (Hi : S → List HA) (inv : S → Prop)
    (h1 : (∀ s, inv s → AnyL E ops listed fuel k (VF.of (Vi s)) (Hi s) Hs) → AnyL E ops listed0 fuel0 k V H Hs)
    (h2 : ∀ s, inv s → AnyL E ops listed fuel k (VF.of (Vi s)) (Hi s) Hs) : AnyL E ops listed0 fuel0 k V H Hs := h1 h2
theorem any_un {op : Oper} (i : Nat) (hi : ops[i]? = some op) (hs : Region.noSelect ops = true) (hf : Region.free .any ops listed i = true) (hr : (Region.ready .any ops listed).contains i = true) (hsub : Sub H Hs)
    (j : Nat) (b : Bool) (t : Nat) (hg : op.guard = some (j, b)) (hj : ((ops[j]?).bind (·.dst)) = some t) (hv : V t = some undef) (ht : Nat.blt t E.n = true) (hd : inB E.n op.dst = true)
    (hk : AnyL E ops (listed.setIfInBounds i true) fuel k (V.put op.dst undef) H Hs) (hbl : E.blind = true := by exact rfl) : AnyL E ops listed (fuel + 1) k V H Hs := by
  intro a w r
  have hS : SH E Hs w := by
    obtain ⟨_, _, _, o, hb, ht, hst⟩ := r
    exact ⟨o, hb, ht.tr, hsub.sats hst⟩
  have h2 := getD_some r.1 ht (r.2.2.1 t _ hv)
  refine wpAnyI_take hi hs hf hr (fun c a w hq => Qof_panic hbl k c a w hq) (.inr ⟨by cases b <;> simp [Region.wanted, hg, yielded, hj, h2, undef], rfl⟩) hS ?_
  obtain ⟨h1, h2, h3, o, hb, ht, hst⟩ := r
  exact hk _ w (Rel.put h1 h2 h3 hd hb ht (Tr.refl w o) hst)
end Go.Abs
namespace Go.Abs
variable {E : Env} {k : List KI} {V : VF} {H : List HA} {ops : Array Oper} {listed : Array Bool} {fuel : Nat} {Hs : List HA}
theorem Rel.slc {a : Act} {w : World} (m : Nat) {h : HA} {v : Value} {es : Nat} {cells : List (List Value)} (hm : H[m]? = some h) (hr : Reads h v es cells) (q : Rel E V H a w) : v.cells = #[v] ∧ v.oneCell' = true := by
  obtain ⟨h1, h2, h3, o, hb, ht, hs⟩ := q
  obtain ⟨x, cap, e, _⟩ := hr.is w o m (hs m h hm)
  rw [e]; exact ⟨rfl, rfl⟩
theorem ops_slc {l : List Oper} (m : Nat) {h : HA} {v : Value} {es : Nat} {cells : List (List Value)} (hm : H[m]? = some h) (hr : Reads h v es cells) (hk : v.cells = #[v] → v.oneCell' = true → Ops E ops l k V H) : Ops E ops l k V H :=
  fun a w q => hk (q.slc m hm hr).1 (q.slc m hm hr).2 a w q
theorem anyo_slc {i : Nat} (m : Nat) {h : HA} {v : Value} {es : Nat} {cells : List (List Value)} (hm : H[m]? = some h) (hr : Reads h v es cells) (hk : v.cells = #[v] → v.oneCell' = true → AnyO E ops listed fuel k V H Hs i) : AnyO E ops listed fuel k V H Hs i :=
  fun a w q => hk (q.slc m hm hr).1 (q.slc m hm hr).2 a w q
end Go.Abs
namespace Go.Abs
variable {E : Env} {k : List KI} {V : VF} {H : List HA}

/-- the part of a slice -/
def subS (v : Value) (es l r : Nat) : Value := match v with
  | .slice a _ cap => .slice (if cap = l then a else a.map (·.add (l * es))) (r - l) (cap - l)
  | v => v
theorem turn_sub (m : Nat) {v : Value} {es l r : Nat} {cells : List (List Value)} (hm : H[m]? = some (ro v es cells)) (h1 : l ≤ r) (h2 : r ≤ cells.length) : Turn H (H ++ [ro (subS v es l r) es ((cells.take r).drop l)]) :=
  turn_add fun w o hs => by
    obtain ⟨a, cap, e1, e2, e3, e4, e5⟩ := id (hs m _ hm)
    have h3 := hs m _ hm
    subst e1
    exact SliceIs.sub h3 h1 h2 (by omega) (Nat.le_refl _)
/-- a part of a row of our own, in its place -/
theorem RowIs.sub {w : World} {M : Nat → Prop} {v : Value} {es l r : Nat} {cells : List (List Value)} (h : RowIs w M v es cells) (h1 : l ≤ r) (h2 : r ≤ cells.length) : RowIs w M (subS v es l r) es ((cells.take r).drop l) := by
  rcases h with ⟨⟨a, rfl⟩, rfl⟩ | ⟨b, off, cap, arr, T, fz, rfl, g2, g3, g4, g5, g6, g7, g8, g9, g10⟩
  · simp at h2
    obtain rfl : r = 0 := h2
    obtain rfl : l = 0 := by omega
    exact .inl ⟨⟨a, by simp [subS]⟩, by simp⟩
  · by_cases hc : cap = l
    · have : r = l := by omega
      subst this
      refine .inl ⟨⟨_, by simp only [subS, hc, if_true, Nat.sub_self]; rfl⟩, by simp⟩
    · have hadd : (Addr.add ⟨b, off, none⟩ (l * es)) = ⟨b, off + l * es, none⟩ := by unfold Addr.add; split <;> simp_all
      have hmul : off + cap * es = off + l * es + (cap - l) * es := by rw [Nat.add_assoc, ← Nat.add_mul]; congr 2; omega
      refine .inr ⟨b, off + l * es, cap - l, arr, T, fz, ?_, g2, g3, g4, g5, by rw [g6, hmul], ?_, by omega, fun c hc => g9 c (List.mem_of_mem_take (List.mem_of_mem_drop hc)), ?_⟩
      · simp only [subS, hc, if_false, Option.map_some, hadd]
        congr 1
        simp
        omega
      · simp; omega
      · intro i c hi j x hj
        rw [List.getElem?_drop] at hi
        have hi' : cells[l + i]? = some c := by
          rw [List.getElem?_take] at hi
          split at hi
          · exact hi
          · cases hi
        have := g10 (l + i) c hi' j x hj
        rw [← this]
        congr 1
        rw [Nat.add_mul]; omega
section
variable {P : Program} {d : Option Nat} {ty : TypeId} {pos : String} {af : Array Edge} {g : Option (Nat × Bool)}
def Bi (V : VF) (x : Option Operand) (dflt : Nat) (n : Int) : Prop := (x = none ∧ n = (dflt : Int)) ∨ ∃ y kd, x = some y ∧ V.ev y = some (.int kd n)
theorem bi0 {dflt : Nat} : Bi V none dflt (dflt : Int) := .inl ⟨rfl, rfl⟩
theorem bi1 {y : Operand} {kd : IntKind} {dflt : Nat} {n : Int} (h : V.ev y = some (.int kd n)) : Bi V (some y) dflt n := .inr ⟨y, kd, rfl, h⟩
theorem Bi.bd {x : Option Operand} {dflt : Nat} {n : Int} (h : Bi V x dflt n) (h0 : 0 ≤ n) : Bd V x dflt n.toNat := by
  rcases h with ⟨rfl, rfl⟩ | ⟨y, kd, rfl, hy⟩
  · exact .inl ⟨rfl, by simp⟩
  · exact .inr ⟨y, kd, rfl, by rw [hy, ← toNat_int h0]⟩
theorem y_slice {T el : TypeId} {x : Operand} {v : Value} {lo hi : Option Operand} {es : Nat} {l r : Int} {cells : List (List Value)} {h : HA} (m : Nat) (hu : ∀ w, (underlying T).run P w = .ok (.slice el) w)
    (hz : ∀ w, (sizeOf el).run P w = .ok es w) (hx : V.ev x = some v) (hm : H[m]? = some h) (hr' : Reads h v es cells) (hl : Bi V lo 0 l) (hr : Bi V hi cells.length r) (h0 : 0 ≤ l) (h1 : l ≤ r) (h2 : r ≤ (cells.length : Int)) :
    OpY P ⟨d, .slice T x lo hi none, ty, pos, af, g⟩ V H (subS v es l.toNat r.toNat) := by
  intro ρ w o hf hbd hs
  obtain ⟨a, cap, e1, e2, e3, e4, e5⟩ := hr'.is w o m (hs m h hm)
  subst e1
  have hrun := run_slice (P := P) (T := T) (w := w) (a := a) (mx := none) hu hz hf (hl.bd h0) (hr.bd (by omega)) rfl (by omega) (by omega) e2
  simp only [Option.map_none] at hrun
  simp [execOp, hf x _ hx, hrun, subS]
theorem bs_extract (s : List UInt8) (l r : Nat) (h1 : l ≤ r) (h2 : r ≤ s.length) : (bs s).extract l r = bs ((s.take r).drop l) := by
  simp only [bs]
  apply ByteArray.ext
  simp [ByteArray.data_extract, List.drop_take]
theorem y_slice_str {T : TypeId} {x : Operand} {s : List UInt8} {lo hi : Option Operand} {l r : Int} (hu : ∀ w, (underlying T).run P w = .ok .string w) (hx : V.ev x = some (.string (bs s))) (hl : Bi V lo 0 l) (hr : Bi V hi s.length r)
    (h0 : 0 ≤ l) (h1 : l ≤ r) (h2 : r ≤ (s.length : Int)) : OpY P ⟨d, .slice T x lo hi none, ty, pos, af, g⟩ V H (.string (bs ((s.take r.toNat).drop l.toNat))) := by
  intro ρ w o hf hbd hs
  have hsz := bs_size s
  have hex := bs_extract s l.toNat r.toNat (by omega) (by omega)
  have hb1 : ∀ (kd : IntKind) (c : BoundsCode), (Instr.sliceBound (.int kd r) s.length c).run P w = .ok r.toNat w := fun kd c => by simp [Instr.sliceBound, asIntOf]; omega
  have hb2 : ∀ (kd : IntKind) (c : BoundsCode), (Instr.sliceBound (.int kd l) r.toNat c).run P w = .ok l.toNat w := fun kd c => by simp [Instr.sliceBound, asIntOf]; omega
  rcases hl with ⟨rfl, rfl⟩ | ⟨y, kd, rfl, hy⟩ <;> rcases hr with ⟨rfl, rfl⟩ | ⟨y', kd', rfl, hy'⟩
  · simp at hex
    simp [execOp, hf x _ hx, Instr.sliceAt, Instr.slice, hu, Instr.sliceBounds, hsz, hex]
  · simp at hex
    simp [execOp, hf x _ hx, Instr.sliceAt, Instr.slice, hu, Instr.sliceBounds, hsz, hf _ _ hy', hb1, hex]
  · simp at hex hb2
    simp [execOp, hf x _ hx, Instr.sliceAt, Instr.slice, hu, Instr.sliceBounds, hsz, hf _ _ hy, hb2, hex]
  · simp [execOp, hf x _ hx, Instr.sliceAt, Instr.slice, hu, Instr.sliceBounds, hsz, hf _ _ hy, hf _ _ hy', hb1, hb2, hex]
theorem map_sub {α : Type} {F : α → List Value} (l : List α) (a b : Nat) : ((l.map F).take b).drop a = ((l.take b).drop a).map F := by rw [List.map_drop, List.map_take]
theorem map_len_le {α : Type} {F : α → List Value} {l : List α} {r : Int} (h : r ≤ (l.length : Int)) : r ≤ ((l.map F).length : Int) := by simpa using h
theorem map_toNat_le {α : Type} {F : α → List Value} {l : List α} {r : Int} (h : r ≤ (l.length : Int)) : r.toNat ≤ (l.map F).length := by simp; omega
end

/-! what stays as it is may become more within a region -/
end Go.Abs
namespace Go.Abs
variable {E : Env} {k : List KI} {V : VF} {H : List HA}

/-- how an assertion of the caller's is handed to the callee: 0 seen as it is, 1 looked into, 2 lent -/
def ownX (sh : List (Nat × Nat)) (o : Own) : Own := fun b => match o b with
  | .mine m => match sh.findIdx? (fun s => s.2 == 2 && s.1 == m) with
    | some j => .mine j
    | none => if sh.any (fun s => s.2 == 1 && s.1 == m) then .no else .far
  | x => x
def okX (sh : List (Nat × Nat)) : Bool := (List.range sh.length).all fun j => match sh[j]? with
  | some (m, mode) => if mode == 2 then sh.findIdx? (fun s => s.2 == 2 && s.1 == m) == some j else
      if mode == 1 then (sh.findIdx? (fun s => s.2 == 2 && s.1 == m)).isNone else true
  | none => true
def ShowsX (H : List HA) (sh : List (Nat × Nat)) (Hc : List HA) : Prop :=
  sh.length = Hc.length ∧ ∀ (j m mode : Nat) (h : HA), sh[j]? = some (m, mode) → Hc[j]? = some h → ∃ h', H[m]? = some h' ∧ (if mode = 2 then h' = h else Views h' h (mode == 1))
theorem showsX_nil : ShowsX H [] [] := ⟨rfl, fun j m mode h hj => by simp at hj⟩
theorem showsX_view {sh : List (Nat × Nat)} {Hc : List HA} {h' h : HA} (m : Nat) (hm : H[m]? = some h') (hv : Views h' h false) (hr : ShowsX H sh Hc) : ShowsX H ((m, 0) :: sh) (h :: Hc) := by
  refine ⟨by simp [hr.1], fun j m' mode x hj hx => ?_⟩
  cases j with
  | zero => simp at hj hx; obtain ⟨rfl, rfl⟩ := hj; subst hx; exact ⟨h', hm, hv⟩
  | succ j => exact hr.2 j m' mode x (by simpa using hj) (by simpa using hx)
theorem showsX_look {sh : List (Nat × Nat)} {Hc : List HA} {h' h : HA} (m : Nat) (hm : H[m]? = some h') (hv : Views h' h true) (hr : ShowsX H sh Hc) : ShowsX H ((m, 1) :: sh) (h :: Hc) := by
  refine ⟨by simp [hr.1], fun j m' mode x hj hx => ?_⟩
  cases j with
  | zero => simp at hj hx; obtain ⟨rfl, rfl⟩ := hj; subst hx; exact ⟨h', hm, hv⟩
  | succ j => exact hr.2 j m' mode x (by simpa using hj) (by simpa using hx)
theorem showsX_lend {sh : List (Nat × Nat)} {Hc : List HA} {h : HA} (m : Nat) (hm : H[m]? = some h) (hr : ShowsX H sh Hc) : ShowsX H ((m, 2) :: sh) (h :: Hc) := by
  refine ⟨by simp [hr.1], fun j m' mode x hj hx => ?_⟩
  cases j with
  | zero => simp at hj hx; obtain ⟨rfl, rfl⟩ := hj; subst hx; exact ⟨h, hm, rfl⟩
  | succ j => exact hr.2 j m' mode x (by simpa using hj) (by simpa using hx)
/-- what is lent is the caller's no more -/
def lentOut (sh : List (Nat × Nat)) (H : List HA) : List HA := sh.foldl (fun H s => if s.2 == 2 then H.set s.1 HA.emp else H) H
theorem lentOut_length : ∀ (sh : List (Nat × Nat)) (H : List HA), (lentOut sh H).length = H.length
  | [], H => rfl
  | s :: sh, H => by
    unfold lentOut
    rw [List.foldl_cons]
    have := lentOut_length sh (if s.2 == 2 then H.set s.1 HA.emp else H)
    unfold lentOut at this
    rw [this]; split <;> simp
theorem lentOut_get : ∀ (sh : List (Nat × Nat)) (H : List HA) (m : Nat) (h : HA), (lentOut sh H)[m]? = some h → h = HA.emp ∨ (H[m]? = some h ∧ ∀ s ∈ sh, s.2 = 2 → s.1 ≠ m)
  | [], H, m, h, hm => .inr ⟨hm, by simp⟩
  | s :: sh, H, m, h, hm => by
    unfold lentOut at hm
    rw [List.foldl_cons] at hm
    rcases lentOut_get sh _ m h hm with h1 | ⟨h1, h2⟩
    · exact .inl h1
    · by_cases hs : s.2 = 2
      · simp only [hs, beq_self_eq_true, if_true] at h1
        by_cases he : s.1 = m
        · left
          subst he
          rw [List.getElem?_set] at h1
          simp at h1
          exact h1.2.symm
        · rw [List.getElem?_set_ne he] at h1
          exact .inr ⟨h1, fun x hx h3 => by
            rcases List.mem_cons.1 hx with rfl | hx
            · exact he
            · exact h2 x hx h3⟩
      · have : (s.2 == 2) = false := by simpa using hs
        simp only [this] at h1
        exact .inr ⟨h1, fun x hx h3 => by
          rcases List.mem_cons.1 hx with rfl | hx
          · exact absurd h3 hs
          · exact h2 x hx h3⟩

theorem t_callx {P : Program} {d : Option Nat} {ty : TypeId} {pos : String} {af : Array Edge} {g : Option (Nat × Bool)} {fx : Operand} {f : FuncId} {xs : Array Operand} {Ts : Array TypeId} {vs cs : List Value} {Hc : List HA} {post : Post}
    (sh : List (Nat × Nat)) (hfx : V.ev fx = some (.func (.func f) #[] cs.toArray)) (hcall : ∀ args w, (callFunc f args).run P w = .ok (.enter f args) w)
    (hxs : xs.toList.map V.ev = vs.map some) (hc : Meets P f (vs ++ cs) Hc post) (hsh : ShowsX H sh Hc) (hok : okX sh = true)
    (hst : (sh.all fun s => s.2 != 1) = true ∨ ∀ v G, post v G → ∀ g ∈ G, g.Strict) :
    OpT P ⟨d, .call ⟨.value fx, xs, Ts⟩, ty, pos, af, g⟩ V H (fun v' H' => ∃ G, post v' G ∧ H' = lentOut sh H ++ G) := by
  intro ρ w o hf hbd hs
  have hargs : (xs.map ρ) = vs.toArray := by
    apply Array.ext'
    rw [Array.toList_map]
    generalize xs.toList = l at hxs
    clear hc
    induction l generalizing vs with
    | nil => cases vs <;> simp_all
    | cons x r ih =>
      cases vs with
      | nil => simp at hxs
      | cons v vs =>
        simp only [List.map_cons, List.cons.injEq] at hxs ⊢
        exact ⟨hf _ _ hxs.1, ih hxs.2⟩
  have hrun : (execOp ρ ⟨d, .call ⟨.value fx, xs, Ts⟩, ty, pos, af, g⟩).run P w = .ok (.enter f (vs ++ cs).toArray) w := by
    simp [execOp, resolve, invoke, Deferred.ofValue, hf fx _ hfx, hargs, hcall]
  unfold Does
  rw [hrun]
  have hoc : ∀ b, o b = .no → ownX sh o b = .no := fun b hb => by simp [ownX, hb]
  have hall := List.all_eq_true.1 hok
  have hfar : ∀ b, o b = .far → ownX sh o b = .far := fun b hb => by simp [ownX, hb]
  -- who holds a block of the caller's own during the call
  have hmine : ∀ b m, o b = .mine m → (∃ j, sh.findIdx? (fun s => s.2 == 2 && s.1 == m) = some j ∧ ownX sh o b = .mine j) ∨
      (sh.findIdx? (fun s => s.2 == 2 && s.1 == m) = none ∧ ((ownX sh o b = .no ∧ (sh.any fun s => s.2 == 1 && s.1 == m) = true) ∨ ownX sh o b = .far)) := by
    intro b m hb
    simp only [ownX, hb]
    cases hfi : sh.findIdx? (fun s => s.2 == 2 && s.1 == m) with
    | some j => exact .inl ⟨j, rfl, rfl⟩
    | none =>
      right
      refine ⟨rfl, ?_⟩
      simp only []
      split
      · rename_i h; exact .inl ⟨rfl, h⟩
      · exact .inr rfl
  refine (hc w (ownX sh o) (fun b hb => hoc b (hbd b hb)) ?_).mono ?_
  · intro j h hj
    have hlt : j < sh.length := by rw [hsh.1]; exact (List.getElem?_eq_some_iff.1 hj).1
    obtain ⟨⟨m, mode⟩, hsj⟩ : ∃ s, sh[j]? = some s := ⟨_, List.getElem?_eq_getElem hlt⟩
    obtain ⟨h', hm, hv⟩ := hsh.2 j m mode h hsj hj
    have hchk := hall j (by simp [hlt])
    rw [hsj] at hchk
    simp only at hchk
    by_cases h2 : mode = 2
    · subst h2
      simp only [if_true] at hv
      subst hv
      simp only [beq_self_eq_true, if_true, beq_iff_eq] at hchk
      exact h'.keep (Nat.le_refl _) (fun b _ hb => ⟨by simp only [ownX, hb, hchk], rfl⟩) (fun b _ hb => ⟨hoc b hb, rfl⟩) (hs _ h' hm)
    · rw [if_neg h2] at hv
      refine hv w o _ _ j (fun b _ => hoc b) (fun hl b _ hb => ?_) (hs _ h' hm)
      have h1 : mode = 1 := by simpa using hl
      subst h1
      simp only [show ((1 : Nat) == 2) = false from rfl, beq_self_eq_true, if_true, Bool.false_eq_true, if_false, Option.isNone_iff_eq_none] at hchk
      rcases hmine b m hb with ⟨j', hj', _⟩ | ⟨_, h3 | h3⟩
      · rw [hchk] at hj'; cases hj'
      · exact h3.1
      · exfalso
        simp only [ownX, hb] at h3
        rw [hchk] at h3
        simp only at h3
        rw [if_pos (List.any_eq_true.2 ⟨(m, 1), List.mem_of_getElem? hsj, by simp⟩)] at h3
        cases h3
  · rintro e w' ⟨v, G, o', rfl, hp, hb', ht, hs'⟩
    let o2 : Own := fun b => if b < w.heap.size then (match o b with
        | .mine m => if (sh.findIdx? (fun s => s.2 == 2 && s.1 == m)).isSome then (match o' b with | .mine j => .mine (H.length + j) | _ => .no) else .mine m
        | x => x) else match o' b with | .mine j => .mine (H.length + j) | _ => .no
    -- what is not lent is as it was
    have keepb : ∀ b, b < w.heap.size → (∀ m, o b = .mine m → sh.findIdx? (fun s => s.2 == 2 && s.1 == m) = none) → o2 b = o b ∧ w'.heap[b]? = w.heap[b]? := by
      intro b hlt hnl
      cases hob : o b with
      | no => exact ⟨by simp [o2, hlt, hob], (ht.no b hlt (hoc b hob)).2⟩
      | far => exact ⟨by simp [o2, hlt, hob], (ht.far b hlt (hfar b hob)).2⟩
      | mine m =>
        have hn := hnl m hob
        refine ⟨by simp [o2, hlt, hob, hn], ?_⟩
        rcases hmine b m hob with ⟨j, hj, _⟩ | ⟨_, h3 | h3⟩
        · rw [hn] at hj; cases hj
        · exact (ht.no b hlt h3.1).2
        · exact (ht.far b hlt h3).2
    have hG : ∀ j b, o' b = .mine j → o2 b = .mine (H.length + j) := by
      intro j b he
      by_cases hlt : b < w.heap.size
      · cases hob : o b with
        | no => have := (ht.no b hlt (hoc b hob)).1; rw [he] at this; cases this
        | far => have := (ht.far b hlt (hfar b hob)).1; rw [he] at this; cases this
        | mine m =>
          rcases hmine b m hob with ⟨j', hj', _⟩ | ⟨hn, h3 | h3⟩
          · simp [o2, hlt, hob, hj', he]
          · have := (ht.no b hlt h3.1).1; rw [he] at this; cases this
          · have := (ht.far b hlt h3).1; rw [he] at this; cases this
      · simp [o2, hlt, he]
    refine ⟨v, rfl, lentOut sh H ++ G, o2, ⟨G, hp, rfl⟩, ?_, ?_, ?_⟩
    · intro b hle
      have hsz := ht.size
      have : ¬ b < w.heap.size := by omega
      simp [o2, this, hb' b hle]
    · refine ⟨ht.os, ht.tape, ht.output, ht.size, fun b hlt hb => ?_, fun b hlt hb => ?_⟩
      · have := keepb b hlt (fun m hm => by rw [hb] at hm; cases hm)
        exact ⟨this.1.trans hb, this.2⟩
      · have := keepb b hlt (fun m hm => by rw [hb] at hm; cases hm)
        exact ⟨this.1.trans hb, this.2⟩
    · intro j h hj
      rw [List.getElem?_append] at hj
      split at hj
      · rename_i hlt0
        rcases lentOut_get sh H j h hj with rfl | ⟨hj1, hj2⟩
        · trivial
        · refine h.keep ht.size (fun b hlt hb => ?_) (fun b hlt hb => ?_) (hs j h hj1)
          · have := keepb b hlt (fun m hm => by
              rw [hb] at hm; injection hm with hm; subst hm
              rw [List.findIdx?_eq_none_iff]
              intro s hsm
              by_cases h2 : s.2 = 2
              · have := hj2 s hsm h2; simp [this]
              · simp [h2])
            exact ⟨this.1.trans hb, this.2⟩
          · have := keepb b hlt (fun m hm => by rw [hb] at hm; cases hm)
            exact ⟨this.1.trans hb, this.2⟩
      · rename_i hge
        rw [lentOut_length] at hge hj
        have hjj : H.length + (j - H.length) = j := by omega
        have hp' := hs' _ h hj
        rcases hst with hst | hst
        · refine h.keep (Nat.le_refl _) (fun b _ hb => ⟨by rw [hG _ b hb, hjj], rfl⟩) (fun b hlt hb => ⟨?_, rfl⟩) hp'
          by_cases hlt' : b < w.heap.size
          · cases hob : o b with
            | no => simp [o2, hlt', hob]
            | far => have := (ht.far b hlt' (hfar b hob)).1; rw [hb] at this; cases this
            | mine m =>
              rcases hmine b m hob with ⟨j', hj', _⟩ | ⟨hn, h3 | h3⟩
              · simp [o2, hlt', hob, hj', hb]
              · exfalso
                obtain ⟨s, hsm, hs2⟩ := List.any_eq_true.1 h3.2
                have := List.all_eq_true.1 hst s hsm
                simp at this hs2
                exact this hs2.1
              · have := (ht.far b hlt' h3).1; rw [hb] at this; cases this
          · simp [o2, hlt', hb]
        · have hgm : h ∈ G := List.mem_of_getElem? hj
          exact hst v G hp h hgm w' o' _ o2 j (fun b _ hb => by rw [hG _ b hb, hjj]) hp'
end Go.Abs
namespace Go.Abs
set_option linter.unusedSimpArgs false
variable {E : Env} {k : List KI} {V : VF} {H : List HA}
section
variable {P : Program} {d : Option Nat} {ty : TypeId} {pos : String} {af : Array Edge} {g : Option (Nat × Bool)}
theorem y_makeFunc {f : FuncId} {caps : Array Operand} {vs : List Value} (h : caps.toList.map V.ev = vs.map some) : OpY P ⟨d, .makeFunc (.func f) #[] caps, ty, pos, af, g⟩ V H (.func (.func f) #[] vs.toArray) := by
  intro ρ w o hf _ _
  have : caps.map ρ = vs.toArray := by
    apply Array.ext'
    rw [Array.toList_map]
    generalize caps.toList = l at h
    induction l generalizing vs with
    | nil => cases vs <;> simp_all
    | cons x r ih =>
      cases vs with
      | nil => simp at h
      | cons v vs =>
        simp only [List.map_cons, List.cons.injEq] at h ⊢
        exact ⟨hf _ _ h.1, ih h.2⟩
  simp [execOp, Instr.makeFunc, this]

theorem rep_len (n : Nat) (c : List Value) : (List.replicate n c).flatten.length = n * c.length := by
  induction n with
  | zero => simp
  | succ n ih => rw [List.replicate_succ, List.flatten_cons, List.length_append, ih, Nat.succ_mul, Nat.add_comm]
theorem rep_flat (n : Nat) (z : Array Value) (hz : z.size ≠ 0) : (Array.range (n * z.size)).map (z[· % z.size]!) = (List.replicate n z.toList).flatten.toArray := by
  have hl : (List.replicate n z.toList).flatten.length = n * z.size := by rw [rep_len]; simp
  apply Array.ext_getElem?
  intro i
  by_cases hi : i < n * z.size
  · have h1 : i % z.size < z.size := Nat.mod_lt _ (by omega)
    have h2 : i / z.size < n := Nat.div_lt_of_lt_mul (by rw [Nat.mul_comm]; exact hi)
    have := flat_at (es := z.size) (List.replicate n z.toList) (by intro c hc; rw [List.eq_of_mem_replicate hc]; simp) (i / z.size) (i % z.size) z.toList z[i % z.size] (by simp [h2]) (by simp [h1])
    rw [Nat.mul_comm, Nat.div_add_mod] at this
    have e2 : ((List.replicate n z.toList).flatten.toArray)[i]? = some z[i % z.size] := by simpa using this
    rw [e2]
    simp [hi, h1]
  · rw [Array.getElem?_eq_none (by simp; omega), Array.getElem?_eq_none (by rw [List.size_toArray]; omega)]
/-- a new slice of zeros -/
theorem t_makeSlice {T el : TypeId} {z : Value} {ti : TypeInfo} {x y : Operand} {n : Int} {es : Nat} (hu : ∀ w, (underlying T).run P w = .ok (.slice el) w) (hti : ∀ w, (typeInfo el).run P w = .ok ti w) (hes : ti.size = es) (h0 : ∀ w, (zeroValue el).run P w = .ok z w)
    (hzs : z.cells.size = es) (hpos : es ≠ 0) (hx : V.ev x = some (.int .i64 n)) (hy : V.ev y = some (.int .i64 n)) (hn0 : 0 ≤ n) (hn1 : n ≤ 4294967296) (hb : ti.bytes ≤ 16384) :
    OpT P ⟨d, .makeSlice T x y, ty, pos, af, g⟩ V H (fun v' H' => H' = H ++ [row v' es (List.replicate n.toNat z.cells.toList)]) := by
  intro ρ w o hf hbd hs
  have hw : IntKind.i64.wrap n = n := wrap_i64 (by omega) (by omega)
  have hsz : ∀ w, (sizeOf el).run P w = .ok es w := fun w => by simp [sizeOf, hti, hes]
  have hbn : (ti.bytes : Int) * n ≤ 16384 * 4294967296 := by
    have h1 : (ti.bytes : Int) * n ≤ 16384 * n := Int.mul_le_mul_of_nonneg_right (by omega) hn0
    omega
  have hbig : ¬ (281474976710656 : Int) < (ti.bytes : Int) * n := by omega
  have hroom : ¬ roomBytes < n.toNat * ti.bytes := by
    have h1 : n.toNat * ti.bytes ≤ 4294967296 * 16384 := Nat.mul_le_mul (by omega) hb
    have h2 : 4294967296 * 16384 ≤ roomBytes := by unfold roomBytes; decide
    omega
  have hfl := rep_flat n.toNat z.cells (by omega)
  rw [hzs] at hfl
  have hcells : (if n.toNat * es = 0 then (Array.range (n.toNat * es)).map ((#[] : Array Value)[· % (#[] : Array Value).size]!) else (Array.range (n.toNat * es)).map (z.cells[· % z.cells.size]!)) = (List.replicate n.toNat z.cells.toList).flatten.toArray := by
    split
    · rename_i h
      have : n.toNat = 0 := by rcases Nat.mul_eq_zero.1 h with h | h <;> omega
      simp [this]
    · rw [hzs]; exact hfl
  have hrun : (execOp ρ ⟨d, .makeSlice T x y, ty, pos, af, g⟩).run P w = .ok (.value (.slice (some ⟨w.heap.size, 0, none⟩) n.toNat n.toNat)) { w with heap := w.heap.push (.cells (List.replicate n.toNat z.cells.toList).flatten.toArray el) } := by
    by_cases hne : n.toNat * es = 0
    · rw [if_pos hne] at hcells
      simp [execOp, Instr.makeSlice, hf x _ hx, hf y _ hy, hu, asInt, asIntOf, hti, hw, hbig, Int.not_lt.2 hn0, askRoom, hroom, hsz, hne, newRow]
      rw [← hcells, hne]; simp
    · rw [if_neg hne] at hcells
      simp [execOp, Instr.makeSlice, hf x _ hx, hf y _ hy, hu, asInt, asIntOf, hti, hw, hbig, Int.not_lt.2 hn0, askRoom, hroom, hsz, hne, h0, newRow]
      rw [← hcells]
  unfold Does
  rw [hrun]
  have hn' := nw_push w (.cells (List.replicate n.toNat z.cells.toList).flatten.toArray el) w.drawn
  have hall : ∀ c ∈ List.replicate n.toNat z.cells.toList, c.length = es := fun c hc => by rw [List.eq_of_mem_replicate hc, Array.length_toList, hzs]
  have hrow : RowIs { w with heap := w.heap.push (.cells (List.replicate n.toNat z.cells.toList).flatten.toArray el) } (fun b => addOwn o w.heap.size H.length b = .mine H.length) (.slice (some ⟨w.heap.size, 0, none⟩) n.toNat n.toNat) es (List.replicate n.toNat z.cells.toList) := by
    refine .inr ⟨w.heap.size, 0, n.toNat, (List.replicate n.toNat z.cells.toList).flatten.toArray, el, (0, 0), by simp, by simp [addOwn], by simp, by simp, .inl (Nat.le_refl _), ?_, by simp, by unfold maxLen; omega, hall, ?_⟩
    · rw [List.size_toArray, rep_len]; simp [hzs]
    · intro i c hi j x hj
      rw [Nat.zero_add]
      simpa using flat_at _ hall i j c x hi hj
  obtain ⟨h1, h2, h3⟩ := sats_new (g := row (.slice (some ⟨w.heap.size, 0, none⟩) n.toNat n.toNat) es (List.replicate n.toNat z.cells.toList)) hbd hn' hs hrow
  exact ⟨_, _, rfl, h1, h2, h3⟩
theorem map_rep {α : Type} {F : α → List Value} {n : Nat} {c : List Value} {a : α} (h : c = F a) : List.replicate n c = (List.replicate n a).map F := by rw [h, List.map_replicate]
end

/-! maps -/
section
variable {P : Program} {d : Option Nat} {ty : TypeId} {pos : String} {af : Array Edge} {g : Option (Nat × Bool)} {κ β : Type} [DecidableEq κ]
end
end Go.Abs
namespace Go.Abs
set_option linter.unusedSimpArgs false
set_option linter.unusedVariables false
variable {E : Env} {k : List KI} {V : VF} {H : List HA}
/-- an assertion that hangs on what nobody writes, and on nothing else -/
def Free (a : HA) : Prop := ∀ w o o' k k', (∀ b, b < w.heap.size → o b = .no → o' b = .no) → a.p w o k → a.p w o' k'
theorem Free.at {a : HA} (h : Free a) : ∀ w o k k', a.p w o k → a.p w o k' := fun w o k k' => h w o o k k' fun _ _ h => h
theorem free_ro {v : Value} {es : Nat} {cells : List (List Value)} : Free (ro v es cells) := fun _ _ _ _ _ ho h => SliceIs.keep (Nat.le_refl _) (fun b hlt hb => ⟨ho b hlt hb, rfl⟩) h
theorem views_free {a : HA} (h : Free a) : Views a a false := fun w o m oc j h1 _ hp => h w o oc m j h1 hp

/-- how an element with slices in it is laid into cells: g, the slices' values; S, what is behind them -/
structure NC (α : Type) where
  G : Type
  es : Nat
  F : α → G → List Value
  S : α → G → List HA
  free : ∀ x g, ∀ h ∈ S x g, Free h
  ok : ∀ x g w o k, (∀ h ∈ S x g, h.p w o k) → (F x g).length = es ∧ ∀ u ∈ F x g, u.oneCell' = true
  /-- what is only read and empty is nil -/
  nn : Bool := false

def HsP (L : List HA) (w : World) (o : Own) (k : Nat) : Prop := ∀ h ∈ L, h.p w o k
theorem HsP.keep {L : List HA} {w w' : World} {o o' : Own} {k k' : Nat} (hs : w.heap.size ≤ w'.heap.size) (h1 : ∀ b, b < w.heap.size → o b = .mine k → o' b = .mine k' ∧ w'.heap[b]? = w.heap[b]?)
    (h2 : ∀ b, b < w.heap.size → o b = .no → o' b = .no ∧ w'.heap[b]? = w.heap[b]?) (h : HsP L w o k) : HsP L w' o' k' := fun x hx => x.keep hs h1 h2 (h x hx)
theorem HsP.free {L : List HA} (hL : ∀ h ∈ L, Free h) {w : World} {o o' : Own} {k k' : Nat} (ho : ∀ b, b < w.heap.size → o b = .no → o' b = .no) (h : HsP L w o k) : HsP L w o' k' :=
  fun x hx => hL x hx w o o' k k' ho (h x hx)
section
variable {α : Type} {C : NC α} {v : Value} {l : List α}
def NC.cs (C : NC α) (lg : List (α × C.G)) : List (List Value) := lg.map fun p => C.F p.1 p.2
def nrow (v : Value) (C : NC α) (l : List α) : HA :=
  ⟨fun w o k => ∃ lg : List (α × C.G), l = lg.map (·.1) ∧ RowIs w (fun b => o b = .mine k) v C.es (C.cs lg) ∧ ∀ p ∈ lg, HsP (C.S p.1 p.2) w o k,
   fun hs h1 h2 ⟨lg, e, a, b⟩ => ⟨lg, e, a.keep hs h1, fun p hp => (b p hp).keep hs h1 h2⟩⟩
def nro (v : Value) (C : NC α) (l : List α) : HA :=
  ⟨fun w o k => (∃ lg : List (α × C.G), l = lg.map (·.1) ∧ SliceIs w (fun b => o b = .no) v C.es (C.cs lg) ∧ ∀ p ∈ lg, HsP (C.S p.1 p.2) w o k) ∧ (C.nn = true → l = [] → v = .slice none 0 0),
   fun hs h1 h2 ⟨⟨lg, e, a, b⟩, z⟩ => ⟨⟨lg, e, a.keep hs h2, fun p hp => (b p hp).keep hs h1 h2⟩, z⟩⟩
theorem NC.cs_len {lg : List (α × C.G)} (h : l = lg.map (·.1)) : (C.cs lg).length = l.length := by rw [h]; simp [NC.cs]
theorem free_nro : Free (nro v C l) := fun w o o' k k' ho ⟨⟨lg, e, a, b⟩, z⟩ => ⟨⟨lg, e, a.keep (Nat.le_refl _) (fun b hlt hb => ⟨ho b hlt hb, rfl⟩), fun p hp => (b p hp).free (C.free _ _) ho⟩, z⟩
theorem views_nro : Views (nro v C l) (nro v C l) false := views_free free_nro
theorem views_nrow (hn : C.nn = true → l ≠ [] := by exact fun h => absurd h (by decide)) : Views (nrow v C l) (nro v C l) true := fun w o m oc j h1 h2 ⟨lg, e, a, b⟩ =>
  ⟨⟨lg, e, (RowIs.slice (B := fun b => o b = .mine m) (fun _ hb => hb) a).keep (Nat.le_refl _) (fun b hlt hb => ⟨h2 rfl b hlt hb, rfl⟩), fun p hp => (b p hp).free (C.free _ _) h1⟩, fun h he => absurd he (hn h)⟩
theorem freezeN (m : Nat) (hm : H[m]? = some (nrow v C l)) (hn : C.nn = true → l ≠ [] := by exact fun h => absurd h (by decide)) : Turn H (H.set m (nro v C l)) :=
  turn_give hm fun w o ⟨lg, e, a, b⟩ => ⟨⟨lg, e, SliceIs.keep (Nat.le_refl _) (fun _ _ hb => ⟨giveUp_mine hb, rfl⟩) (RowIs.slice (fun _ hb => hb) a),
    fun p hp => (b p hp).free (C.free _ _) (fun b _ hb => by simp [giveUp, hb, dropO])⟩, fun h he => absurd he (hn h)⟩
theorem nilrowN (C : NC α) : Turn H (H ++ [nrow (.slice none 0 0) C []]) := turn_add fun _ _ _ => ⟨[], rfl, .inl ⟨⟨none, rfl⟩, rfl⟩, fun p hp => by simp at hp⟩
theorem nil_ro {w : World} {o : Own} {k : Nat} (es : Nat) : (ro (.slice none 0 0) es []).p w o k := ⟨none, 0, rfl, Nat.le_refl _, Nat.zero_le _, fun _ => rfl, fun i c hi => by simp at hi⟩
/-- whatever can be read as a slice of n elements -/
structure ReadsN (h : HA) (v : Value) (es n : Nat) : Prop where
  is : ∀ w o k, h.p w o k → ∃ a cap, v = .slice a n cap ∧ n ≤ cap ∧ cap ≤ maxLen ∧ (a = none → cap = 0) ∧ (0 < n → ∃ b off, a = some ⟨b, off, none⟩)
theorem SliceIs.readsN {w : World} {B : Nat → Prop} {es : Nat} {cells : List (List Value)} (h : SliceIs w B v es cells) : ∃ a cap, v = .slice a cells.length cap ∧ cells.length ≤ cap ∧ cap ≤ maxLen ∧ (a = none → cap = 0) ∧ (0 < cells.length → ∃ b off, a = some ⟨b, off, none⟩) := by
  obtain ⟨a, cap, e1, e2, e3, e4, e5⟩ := h
  refine ⟨a, cap, e1, e2, e3, e4, fun h0 => ?_⟩
  obtain ⟨_, b, off, e6, _⟩ := e5 0 _ (List.getElem?_eq_getElem h0)
  exact ⟨b, off, e6⟩
theorem readsN_ro : ReadsN (nro v C l) v C.es l.length := ⟨fun w o k ⟨⟨lg, e, a, _⟩, _⟩ => by have := a.readsN; rwa [NC.cs_len e] at this⟩
theorem readsN_row : ReadsN (nrow v C l) v C.es l.length := ⟨fun w o k ⟨lg, e, a, _⟩ => by have := (RowIs.slice (B := fun b => o b = .mine k) (fun _ hb => hb) a).readsN; rwa [NC.cs_len e] at this⟩
end

/-! facts with a witness -/
def ExT {γ : Type} (H : List HA) (K : γ → List HA) : Prop := ∀ w o, Bnd w o → Sats w o H → ∃ g, Sats w o (H ++ K g)
theorem Rel.ex {γ : Type} {K : γ → List HA} (h : ExT H K) {a : Act} {w : World} (r : Rel E V H a w) : ∃ g, Rel E V (H ++ K g) a w := by
  obtain ⟨h1, h2, h3, o, hb, ht, hs⟩ := r
  obtain ⟨g, hg⟩ := h w o hb hs
  exact ⟨g, h1, h2, h3, o, hb, ht, hg⟩
section
variable {γ : Type} {K : γ → List HA} {ops : Array Oper} {listed : Array Bool} {fuel : Nat} {Hs : List HA}
theorem ops_ex {l : List Oper} (h : ExT H K) (hk : ∀ g, Ops E ops l k V (H ++ K g)) : Ops E ops l k V H := fun a w r => let ⟨g, r'⟩ := r.ex h; hk g a w r'
theorem still_ex {l : List Oper} (h : ExT H K) (hk : ∀ g, StillL E ops l k V (H ++ K g)) : StillL E ops l k V H := fun a w r => let ⟨g, r'⟩ := r.ex h; hk g a w r'
theorem any_ex (h : ExT H K) (hk : ∀ g, AnyL E ops listed fuel k V (H ++ K g) Hs) : AnyL E ops listed fuel k V H Hs := fun a w r => let ⟨g, r'⟩ := r.ex h; hk g a w r'
end
theorem sats_append {w : World} {o : Own} {K : List HA} (hK : ∀ h ∈ K, Free h) (hs : Sats w o H) (k0 : Nat) (h : HsP K w o k0) : Sats w o (H ++ K) := by
  intro j x hj
  rw [List.getElem?_append] at hj
  split at hj
  · exact hs j x hj
  · have hm := List.mem_of_getElem? hj
    exact (hK x hm).at w o k0 j (h x hm)

/-! an element of a slice that nobody writes -/
def atc (v : Value) (n : Nat) (cs : List Value) : HA :=
  ⟨fun w o _ => ∃ b off len cap, v = .slice (some ⟨b, off, none⟩) len cap ∧ b < w.heap.size ∧ o b = .no ∧ ∀ (j : Nat) (x : Value), cs[j]? = some x → w.cell? ⟨b, off + n + j, none⟩ = some x,
   fun hs _ h2 ⟨b, off, len, cap, e1, e2, e3, e4⟩ => let ⟨f1, f2⟩ := h2 b e2 e3; ⟨b, off, len, cap, e1, Nat.lt_of_lt_of_le e2 hs, f1, fun j x hj => by rw [cell_of_block f2]; exact e4 j x hj⟩⟩
theorem free_atc {v : Value} {n : Nat} {cs : List Value} : Free (atc v n cs) := fun w o o' k k' ho ⟨b, off, len, cap, e1, e2, e3, e4⟩ => ⟨b, off, len, cap, e1, e2, ho b e2 e3, e4⟩
section
variable {α : Type} {C : NC α} {v : Value} {l : List α}
theorem nget {G : Type} {lg : List (α × G)} {i : Nat} {x : α} (hl : l = lg.map (·.1)) (hx : l[i]? = some x) : ∃ g, lg[i]? = some (x, g) := by
  subst hl
  rw [List.getElem?_map] at hx
  cases h : lg[i]? with
  | none => rw [h] at hx; simp at hx
  | some p => rw [h] at hx; simp at hx; exact ⟨p.2, by rw [← hx]⟩
theorem cs_get {lg : List (α × C.G)} {i : Nat} {x : α} {g : C.G} (h : lg[i]? = some (x, g)) : (C.cs lg)[i]? = some (C.F x g) := by simp [NC.cs, h]
/-- what an element's cells hold, and what is behind them -/
theorem exAt {i : Nat} {x : α} (m : Nat) (hm : H[m]? = some (nro v C l)) (hx : l[i]? = some x) : ExT H (fun g : C.G => atc v (i * C.es) (C.F x g) :: C.S x g) := by
  intro w o hb hs
  obtain ⟨⟨lg, e, ha, hS⟩, _⟩ := hs m _ hm
  obtain ⟨g, hg⟩ := nget e hx
  obtain ⟨a, cap, g1, _, _, _, hc⟩ := id ha
  obtain ⟨_, b, off, f1, f2, f3, f4⟩ := hc i _ (cs_get hg)
  refine ⟨g, sats_append (k0 := m) ?_ hs ?_⟩
  · intro h hh
    rcases List.mem_cons.1 hh with rfl | hh
    · exact free_atc
    · exact C.free _ _ h hh
  · intro h hh
    rcases List.mem_cons.1 hh with rfl | hh
    · exact ⟨b, off, _, _, by rw [g1, f1], f2, f3, f4⟩
    · exact hS _ (List.mem_of_getElem? hg) h hh
section
variable {P : Program} {d : Option Nat} {ty : TypeId} {pos : String} {af : Array Edge} {g : Option (Nat × Bool)}
theorem y_load_at {T : TypeId} {x : Operand} {r : Value} {n j : Nat} {cs : List Value} (m : Nat) (ha : ∀ w, (isAgg T).run P w = .ok false w) (hx : V.ev x = some (elemP v (n + j))) (hm : H[m]? = some (atc v n cs)) (hc : cs[j]? = some r) :
    OpY P ⟨d, .load T x, ty, pos, af, g⟩ V H r := by
  intro ρ w o hf _ hs
  obtain ⟨b, off, len, cap, e1, _, _, e4⟩ := hs m _ hm
  have := e4 j r hc
  subst e1
  simp [execOp, hf x _ hx, Instr.loadAt, Instr.sureAddr, elemP, Value.sbase, loadVar, ha]
  rw [show off + (n + j) = off + n + j by omega]
  simp [this]
theorem y_lenN {Ts : Array TypeId} {T el : TypeId} {x : Operand} {es n : Nat} {h : HA} (m : Nat) (hT : Ts[0]? = some T) (hu : ∀ w, (underlying T).run P w = .ok (.slice el) w)
    (hx : V.ev x = some v) (hm : H[m]? = some h) (hr : ReadsN h v es n) : OpY P ⟨d, .call ⟨.builtin .len, #[x], Ts⟩, ty, pos, af, g⟩ V H (.int .i64 n) := by
  intro ρ w o hf _ hs
  obtain ⟨a, cap, e1, _⟩ := hr.is w o m (hs m h hm)
  subst e1
  simp [execOp, resolve, invoke, builtin, hf x _ hx, run_len hT hu]
theorem y_indexAddrN {T el : TypeId} {x y : Operand} {kd : IntKind} {i : Int} {es n : Nat} {h : HA} (m : Nat) (hu : ∀ w, (underlying T).run P w = .ok (.slice el) w)
    (hz : ∀ w, (sizeOf el).run P w = .ok es w) (hx : V.ev x = some v) (hy : V.ev y = some (.int kd i)) (hm : H[m]? = some h) (hr : ReadsN h v es n) (h0 : 0 ≤ i) (hn : i.toNat < n) :
    OpY P ⟨d, .indexAddr T x y, ty, pos, af, g⟩ V H (elemP v (i.toNat * es)) := by
  intro ρ w o hf _ hs
  obtain ⟨a, cap, e1, _, _, _, e5⟩ := hr.is w o m (hs m h hm)
  obtain ⟨b, off, rfl⟩ := e5 (by omega)
  subst e1
  obtain ⟨q, rfl⟩ : ∃ q : Nat, i = q := ⟨i.toNat, by omega⟩
  simp only [Int.toNat_natCast] at hn ⊢
  have ha : (Addr.add ⟨b, off, none⟩ (q * es)) = ⟨b, off + q * es, none⟩ := by
    unfold Addr.add; split
    · rename_i h0; rw [h0]; rfl
    · rfl
  simp [execOp, hf x _ hx, hf y _ hy, Instr.indexAt, asIntOf, hu, hz, elemP, Value.sbase, ha, hn]
theorem t_loadNf {T : TypeId} {x : Operand} {i j : Nat} {y : α} (m : Nat) (r : C.G → Value) (ha : ∀ w, (isAgg T).run P w = .ok false w) (hx : V.ev x = some (elemP v (i * C.es + j))) (hm : H[m]? = some (nrow v C l)) (hy : l[i]? = some y) (hr : ∀ g, (C.F y g)[j]? = some (r g)) :
    OpT P ⟨d, .load T x, ty, pos, af, g⟩ V H (fun v' H' => ∃ g, v' = r g ∧ H' = H ++ C.S y g) := by
  intro ρ w o hf hbd hs
  obtain ⟨lg, e, hro, hS⟩ := hs m _ hm
  obtain ⟨g, hg⟩ := nget e hy
  obtain ⟨e0, b, off, cap, e1, e2⟩ := (RowIs.slice (B := fun b => o b = .mine m) (fun _ hb => hb) hro).elem (cs_get hg)
  have hl := e2 j (r g) (hr g)
  have hrun : (execOp ρ ⟨d, .load T x, ty, pos, af, ‹_›⟩).run P w = .ok (.value (r g)) w := by
    subst e1
    simp [execOp, hf x _ hx, Instr.loadAt, Instr.sureAddr, elemP, Value.sbase, loadVar, ha]
    rw [show off + (i * C.es + j) = off + i * C.es + j by omega]
    simp [hl]
  unfold Does
  rw [hrun]
  exact ⟨_, o, ⟨g, rfl, rfl⟩, hbd, Tr.refl w o, sats_append (C.free _ _) hs m (hS _ (List.mem_of_getElem? hg))⟩

/-! what is behind a list of elements is known -/
def Has (H L : List HA) : Prop := ∀ h ∈ L, (∀ w o k, h.p w o k) ∨ ∃ j : Nat, H[j]? = some h
theorem has_nil : Has H [] := fun h hh => by simp at hh
theorem has_cons {h : HA} {L : List HA} (j : Nat) (hj : H[j]? = some h) (r : Has H L) : Has H (h :: L) := fun x hx => by
  rcases List.mem_cons.1 hx with rfl | hx
  · exact .inr ⟨j, hj⟩
  · exact r x hx
theorem has_true {h : HA} {L : List HA} (ht : ∀ w o k, h.p w o k) (r : Has H L) : Has H (h :: L) := fun x hx => by
  rcases List.mem_cons.1 hx with rfl | hx
  · exact .inl ht
  · exact r x hx
theorem Has.sat {L : List HA} (hL : ∀ h ∈ L, Free h) (h : Has H L) {w : World} {o : Own} (hs : Sats w o H) (k : Nat) : HsP L w o k := fun x hx => by
  rcases h x hx with ht | ⟨j, hj⟩
  · exact ht w o k
  · exact (hL x hx).at w o j k (hs j x hj)
def HasAll (H : List HA) (C : NC α) (lg : List (α × C.G)) : Prop := ∀ p ∈ lg, Has H (C.S p.1 p.2)
theorem hasall_nil : HasAll H C [] := fun p hp => by simp at hp
theorem hasall_cons {x : α} {g : C.G} {lg : List (α × C.G)} (h : Has H (C.S x g)) (r : HasAll H C lg) : HasAll H C ((x, g) :: lg) := fun p hp => by
  rcases List.mem_cons.1 hp with rfl | hp
  · exact h
  · exact r p hp
theorem turn_closeR (m : Nat) (lg : List (α × C.G)) {cells : List (List Value)} (hm : H[m]? = some (row v C.es cells)) (hc : cells = C.cs lg) (hl : l = lg.map (·.1)) (hS : HasAll H C lg) : Turn H (H.set m (nrow v C l)) := by
  intro w o hb hs
  exact ⟨o, hb, Tr.refl w o, sats_upd (Nat.le_refl _) (fun _ _ _ => ⟨rfl, rfl⟩) hs ⟨lg, hl, hc ▸ hs m _ hm, fun p hp => (hS p hp).sat (C.free _ _) hs m⟩⟩
theorem turn_openR (m : Nat) (hm : H[m]? = some (nrow v C l)) : ∀ w o, Sats w o H → ∃ lg : List (α × C.G), l = lg.map (·.1) ∧ Sats w o (H.set m (row v C.es (C.cs lg))) ∧ ∀ p ∈ lg, HsP (C.S p.1 p.2) w o m :=
  fun w o hs => let ⟨lg, e, a, b⟩ := hs m _ hm; ⟨lg, e, sats_upd (Nat.le_refl _) (fun _ _ _ => ⟨rfl, rfl⟩) hs a, b⟩
/-! writes -/
theorem Free.tr {h : HA} (hF : Free h) {w w' : World} {o o' : Own} (ht : Tr w o w' o') (k0 k1 : Nat) (hh : h.p w o k0) : h.p w' o' k1 :=
  (hF.at w' o' 0 k1) (HA.keep h ht.size (k := k0) (k' := 0) (o := fun b => match o b with | .no => .no | _ => .far) (o' := o') (fun b _ hb => by split at hb <;> cases hb) (fun b hlt hb => ht.no b hlt (by
    split at hb
    · assumption
    · cases hb)) (hF w o _ k0 k0 (fun b _ hb => by simp [hb]) hh))
theorem HsP.tr {L : List HA} (hL : ∀ h ∈ L, Free h) {w w' : World} {o o' : Own} (ht : Tr w o w' o') {k0 : Nat} (k1 : Nat) (h : HsP L w o k0) : HsP L w' o' k1 := fun x hx => (hL x hx).tr ht k0 k1 (h x hx)
theorem Does.imp {P : Program} {s : Sem Next} {w : World} {D D' : Value → World → Prop} (h : Does P s w D) (hd : ∀ v w', D v w' → D' v w') : Does P s w D' := by
  unfold Does at h ⊢
  generalize s.run P w = x at *
  cases x with
  | halt x w' => simp at h
  | ok nx w' =>
    cases nx <;> simp only [] at h ⊢
    case value v => exact hd _ _ h
    case skip => exact hd _ _ h
    case enter f args => exact h.mono fun e w'' ⟨v, e1, h1⟩ => ⟨v, e1, hd _ _ h1⟩
/-- from a rule about the row opened -/
theorem OpT.openN {op : Oper} {post : Post} (m : Nat) (hm : H[m]? = some (nrow v C l))
    (h : ∀ (lg : List (α × C.G)) w o, l = lg.map (·.1) → (∀ p ∈ lg, HsP (C.S p.1 p.2) w o m) → Sats w o H → OpT P op V (H.set m (row v C.es (C.cs lg))) (fun v' H' => ∃ (v2 : Value) (lg2 : List (α × C.G)), H' = H.set m (row v2 C.es (C.cs lg2)) ∧
      (∀ p ∈ lg2, HsP (C.S p.1 p.2) w o m) ∧ post v' (H.set m (nrow v2 C (lg2.map (·.1)))))) : OpT P op V H post := by
  intro ρ w o hf hbd hs
  obtain ⟨lg, e, hs', hS⟩ := turn_openR m hm w o hs
  refine (h lg w o e hS hs ρ w o hf hbd hs').imp ?_
  rintro v' w' ⟨H', o', ⟨v2, lg2, rfl, hp, hpost⟩, hb', ht, hs2⟩
  have hmlt : m < H.length := (List.getElem?_eq_some_iff.1 hm).1
  refine ⟨_, o', hpost, hb', ht, ?_⟩
  have := sats_upd (w := w') (w' := w') (o := o') (o' := o') (m := m) (g := nrow v2 C (lg2.map (·.1))) (Nat.le_refl _) (fun b _ _ => ⟨rfl, rfl⟩) hs2 ⟨lg2, rfl, hs2 m (row v2 C.es (C.cs lg2)) (by simp [hmlt]), fun p hp' => (hp p hp').tr (C.free _ _) ht m⟩
  rwa [List.set_set] at this
/-- what is put behind a slice of such elements -/
structure SrcN (H : List HA) (m2 : Nat) (v2 : Value) (C : NC α) (l2 : List α) : Prop where
  is : ∃ g, H[m2]? = some g ∧ ∀ w o, g.p w o m2 → ∃ (lg2 : List (α × C.G)) (X : HA), l2 = lg2.map (·.1) ∧ X.p w o m2 ∧ Reads X v2 C.es (C.cs lg2) ∧ (∀ p ∈ lg2, HsP (C.S p.1 p.2) w o m2) ∧ ∀ w' o', Tr w o w' o' → X.p w' o' m2 → g.p w' o' m2
theorem srcN_row {v2 : Value} {l2 : List α} (m2 : Nat) (h : H[m2]? = some (nrow v2 C l2)) : SrcN H m2 v2 C l2 :=
  ⟨_, h, fun w o ⟨lg, e, a, b⟩ => ⟨lg, row v2 C.es (C.cs lg), e, a, reads_row, b, fun w' o' ht hX => ⟨lg, e, hX, fun p hp => (b p hp).tr (C.free _ _) ht m2⟩⟩⟩
theorem set_comm2 {m m2 : Nat} (hne : m ≠ m2) (a b c g : HA) (hg : H[m2]? = some g) : (((H.set m a).set m2 b).set m c).set m2 g = H.set m c := by
  apply List.ext_getElem?
  intro j
  have hlt : m2 < H.length := (List.getElem?_eq_some_iff.1 hg).1
  by_cases h2 : m2 = j
  · subst h2
    rw [List.getElem?_set_self (by simpa using hlt), List.getElem?_set_ne hne, hg]
  · rw [List.getElem?_set_ne h2]
    by_cases h1 : m = j
    · subst h1
      by_cases hl : m < H.length
      · rw [List.getElem?_set_self (by simpa using hl), List.getElem?_set_self hl]
      · rw [List.getElem?_eq_none (by simp; omega), List.getElem?_eq_none (by simp; omega)]
    · rw [List.getElem?_set_ne h1, List.getElem?_set_ne h2, List.getElem?_set_ne h1, List.getElem?_set_ne h1]
theorem t_appendN {Ts : Array TypeId} {T T2 el e2 : TypeId} {x y : Operand} {v vy z : Value} {ti : TypeInfo} {l2 : List α} (m m2 : Nat) (hne : m ≠ m2)
    (hT : Ts[0]? = some T) (hu : ∀ w, (underlying T).run P w = .ok (.slice el) w) (hT2 : Ts[1]? = some T2) (hu2 : ∀ w, (underlying T2).run P w = .ok (.slice e2) w)
    (hti : ∀ w, (typeInfo el).run P w = .ok ti w) (hes : ti.size = C.es) (hby : ti.bytes ≠ 0) (hb2 : ti.bytes ≤ 16384) (h0 : ∀ w, (zeroValue el).run P w = .ok z w) (hzs : z.cells.size = C.es)
    (hx : V.ev x = some v) (hm : H[m]? = some (nrow v C l)) (hy : V.ev y = some vy) (hsrc : SrcN H m2 vy C l2) (hlen : l.length + l2.length ≤ 4294967296) :
    OpT P ⟨d, .call ⟨.builtin .append, #[x, y], Ts⟩, ty, pos, af, g⟩ V H (fun v' H' => H' = H.set m (nrow v' C (l ++ l2))) := by
  obtain ⟨g2, hg2, hsrc⟩ := hsrc
  intro ρ w o hf hbd hs
  obtain ⟨lg, e, hs', hS⟩ := turn_openR m hm w o hs
  obtain ⟨lg2, X, f1, f2, f3, f4, f5⟩ := hsrc w o (hs m2 _ hg2)
  have hmlt : m < H.length := (List.getElem?_eq_some_iff.1 hm).1
  have hmlt2 : m2 < H.length := (List.getElem?_eq_some_iff.1 hg2).1
  have hs2 : Sats w o ((H.set m (row v C.es (C.cs lg))).set m2 X) := sats_upd (Nat.le_refl _) (fun b _ _ => ⟨rfl, rfl⟩) hs' f2
  have hl1 := NC.cs_len (C := C) e
  have hl2 := NC.cs_len (C := C) f1
  have hok2 : ∀ c ∈ C.cs lg2, c.length = C.es ∧ ∀ u ∈ c, u.oneCell' = true := by
    intro c hc
    obtain ⟨p, hp, rfl⟩ := List.mem_map.1 hc
    exact C.ok _ _ w o m2 (f4 p hp)
  have hroom := map_room (F := fun _ => ([] : List Value)) (l := l) (m := l2) (b := ti.bytes) hlen hb2
  simp only [List.length_map] at hroom
  have := t_append (d := d) (ty := ty) (pos := pos) (af := af) (g := g) (P := P) (V := V) (H := (H.set m (row v C.es (C.cs lg))).set m2 X) (x := x) (y := y) (es := C.es) (new := C.cs lg2) m hT hu hT2 hu2 (.inr ⟨_, rfl⟩) hti hes hby h0 hzs hx
    (by rw [List.getElem?_set_ne (Ne.symm hne), List.getElem?_set_self hmlt]) hy (src_reads m2 (by rw [List.getElem?_set_self (by simpa using hmlt2)]) f3 hok2) (by rw [hl1, hl2]; exact hroom) (by rw [hl1, hl2]; unfold maxLen; omega)
  refine (this ρ w o hf hbd hs2).imp ?_
  rintro v' w' ⟨H', o', rfl, hb', ht, hs3⟩
  refine ⟨_, o', rfl, hb', ht, ?_⟩
  have h4 := sats_upd (w := w') (w' := w') (o := o') (o' := o') (m := m2) (g := g2) (Nat.le_refl _) (fun b _ _ => ⟨rfl, rfl⟩) hs3 (f5 w' o' ht (hs3 m2 _ (by rw [List.getElem?_set_ne hne, List.getElem?_set_self (by simpa using hmlt2)])))
  rw [set_comm2 hne _ _ _ _ hg2] at h4
  have h5 := sats_upd (w := w') (w' := w') (o := o') (o' := o') (m := m) (g := nrow v' C (l ++ l2)) (Nat.le_refl _) (fun b _ _ => ⟨rfl, rfl⟩) h4 ⟨lg ++ lg2, by rw [e, f1, List.map_append], by
      have h6 := h4 m _ (List.getElem?_set_self hmlt)
      have e6 : C.cs (lg ++ lg2) = C.cs lg ++ C.cs lg2 := by simp [NC.cs]
      rw [e6]; exact h6, fun p hp => by
      rcases List.mem_append.1 hp with hp | hp
      · exact (hS p hp).tr (C.free _ _) ht m
      · exact (f4 p hp).tr (C.free _ _) ht m⟩
  rwa [List.set_set] at h5
/-- an element -/
theorem t_storeN {T : TypeId} {x y : Operand} {i : Nat} {a b : α} {gb : C.G} {r : Value} (m : Nat) (hz : ∀ w, (sizeOf T).run P w = .ok C.es w) (hx : V.ev x = some (elemP v (i * C.es))) (hy : V.ev y = some r) (hr : r.cells.toList = C.F b gb)
    (hm : H[m]? = some (nrow v C l)) (ha : l[i]? = some a) (hS : Has H (C.S b gb)) :
    OpT P ⟨d, .store T x y, ty, pos, af, g⟩ V H (fun v' H' => v' = undef ∧ H' = H.set m (nrow v C (l.set i b))) := by
  refine OpT.openN m hm fun lg w o e hS' hs => ?_
  obtain ⟨ga, hg⟩ := nget e ha
  have hsb : HsP (C.S b gb) w o m := hS.sat (C.free _ _) hs m
  obtain ⟨ho1, ho2⟩ := C.ok b gb w o m hsb
  obtain ⟨hb1, hb2⟩ := C.ok a ga w o m (hS' _ (List.mem_of_getElem? hg))
  have hmlt : m < H.length := (List.getElem?_eq_some_iff.1 hm).1
  have := t_store_row (d := d) (ty := ty) (pos := pos) (af := af) (g := g) (P := P) (V := V) (H := H.set m (row v C.es (C.cs lg))) (i := i) (j := 0) (n := C.es) (c := C.F a ga) (r := r) m hz hx hy (by simp [hmlt]) (by rw [← Array.length_toList, hr, ho1]) (cs_get hg) (by simp) (by rw [hr]; exact ho2)
  intro ρ w1 o1 hf hb hs1
  refine (this ρ w1 o1 hf hb hs1).imp ?_
  rintro v' w' ⟨H', o', ⟨rfl, rfl⟩, r1⟩
  refine ⟨_, o', ⟨v, lg.set i (b, gb), ?_, ?_, rfl, ?_⟩, r1⟩
  · rw [List.set_set, hr, writeAt_all _ _ (by omega)]; simp [NC.cs, List.map_set]
  · intro p hp
    rcases List.mem_or_eq_of_mem_set hp with h | rfl
    · exact hS' p h
    · exact hsb
  · simp [List.map_set, e]
end
end

/-! a slice's value lies in one cell -/
theorem ro_one {v : Value} {es : Nat} {cells : List (List Value)} {w : World} {o : Own} {k : Nat} (h : (ro v es cells).p w o k) : v.oneCell' = true := by
  obtain ⟨a, cap, e, _⟩ := h; rw [e]; rfl
theorem nro_one {α : Type} {C : NC α} {v : Value} {l : List α} {w : World} {o : Own} {k : Nat} (h : (nro v C l).p w o k) : v.oneCell' = true := by
  obtain ⟨⟨lg, _, ⟨a, cap, e, _⟩, _⟩, _⟩ := h; rw [e]; rfl
theorem len0 {α : Type} {l : List α} (h : l.length = 0) : l = [] := List.length_eq_zero_iff.1 h
section
variable {ops : Array Oper} {listed : Array Bool} {fuel : Nat} {Hs : List HA} {h : HA} {v : Value} {es n : Nat}
theorem Rel.slcN {a : Act} {w : World} (m : Nat) (hm : H[m]? = some h) (hr : ReadsN h v es n) (q : Rel E V H a w) : v.cells = #[v] ∧ v.oneCell' = true := by
  obtain ⟨h1, h2, h3, o, hb, ht, hs⟩ := q
  obtain ⟨x, cap, e, _⟩ := hr.is w o m (hs m h hm)
  rw [e]; exact ⟨rfl, rfl⟩
theorem ops_slcN {l : List Oper} (m : Nat) (hm : H[m]? = some h) (hr : ReadsN h v es n) (hk : v.cells = #[v] → v.oneCell' = true → Ops E ops l k V H) : Ops E ops l k V H :=
  fun a w q => hk (q.slcN m hm hr).1 (q.slcN m hm hr).2 a w q
end
section
variable {P : Program} {d : Option Nat} {ty : TypeId} {pos : String} {af : Array Edge} {g : Option (Nat × Bool)}
end
theorem any_cut2 {ops : Array Oper} {Hs : List HA} {fuel0 : Nat} {listed0 : Array Bool} (listed : Array Bool) (fuel : Nat) (S : Type) (Vi : S → List (Nat × Value)) (Hi : S → List HA)
    (h2 : ∀ s, AnyL E ops listed fuel k (VF.of (Vi s)) (Hi s) Hs) (h1 : (∀ s, AnyL E ops listed fuel k (VF.of (Vi s)) (Hi s) Hs) → AnyL E ops listed0 fuel0 k V H Hs) : AnyL E ops listed0 fuel0 k V H Hs := h1 h2
theorem any_weak2 {ops : Array Oper} {Hs : List HA} {fuel : Nat} {listed listed' : Array Bool} {l : List (Nat × Value)} {G : List HA} (h : AnyL E ops listed' fuel k (VF.of l) G Hs) (is : List Nat) (hL : listed = listed') (hl : ∀ x ∈ l, V x.1 = some x.2) (hn : is.Nodup) (hG : Picks is H G) :
    AnyL E ops listed fuel k V H Hs := any_weak l is G hL hl hn hG h
theorem oy {ops : Array Oper} {op : Oper} {rest : List Oper} {v : Value} (hw : op.guard = none) (hd : inB E.n op.dst = true) (h : OpY E.P op V H v)
    (hk : Ops E ops rest k (V.put op.dst v) H) : Ops E ops (op :: rest) k V H := ops_y (wn hw) hd h hk
theorem ot {ops : Array Oper} {op : Oper} {rest : List Oper} {post : Post} (hw : op.guard = none) (hd : inB E.n op.dst = true) (h : OpT E.P op V H post)
    (hk : ∀ v H', post v H' → Ops E ops rest k (V.put op.dst v) H') : Ops E ops (op :: rest) k V H := ops_t (wn hw) hd h hk
theorem sy {ops : Array Oper} {op : Oper} {rest : List Oper} {v : Value} (hw : op.guard = none) (hd : inB E.n op.dst = true) (h : OpY E.P op V H v)
    (hk : StillL E ops rest k (V.put op.dst v) H) : StillL E ops (op :: rest) k V H := still_y (wn hw) hd h hk
theorem ss {H Hs : List HA} {h : HA} (r : Sub H Hs) : Sub (h :: H) (h :: Hs) := sub_same r
theorem se {H Hs : List HA} {h : HA} (r : Sub H Hs) : Sub (h :: H) (HA.emp :: Hs) := sub_emp r
theorem sn {H : List HA} : Sub H [] := sub_nil
theorem turn_dup (m : Nat) {h : HA} (hF : Free h) (hm : H[m]? = some h) : Turn H (H ++ [h]) := turn_add fun w o hs => hF.at w o m _ (hs m h hm)
theorem cs_rep {α : Type} {C : NC α} {n : Nat} {c : List Value} {x : α} {g : C.G} (h : c = C.F x g) : List.replicate n c = C.cs (List.replicate n (x, g)) := by simp [NC.cs, h]
theorem fst_rep {α G : Type} {n : Nat} {x : α} {g : G} : List.replicate n x = (List.replicate n (x, g)).map (·.1) := by simp
theorem hasall_rep {α : Type} {C : NC α} {n : Nat} {x : α} {g : C.G} (h : Has H (C.S x g)) : HasAll H C (List.replicate n (x, g)) := fun p hp => by rw [List.eq_of_mem_replicate hp]; exact h
theorem nil_ro_any {es : Nat} : ∀ w o k, (ro (.slice none 0 0) es []).p w o k := fun _ _ _ => nil_ro es
end Go.Abs
namespace Go.Abs
variable {E : Env} {k : List KI} {V : VF} {H : List HA}
theorem put_defers {a : Act} {d : Option Nat} {v : Value} : (a.put d v).defers = a.defers := by cases d <;> rfl
theorem wpStill_keep {P : Program} {ops : Array Oper} {w : World} {K K' : Act → Prop} : ∀ (l : List Oper) (a : Act), (∀ a', a'.defers = a.defers → K a' → K' a') → wpStill P ops w K l a → wpStill P ops w K' l a
  | [], a, hk, h => hk a rfl h
  | o :: rest, a, hk, h => by
    have ih : ∀ d v, wpStill P ops w K rest (a.put d v) → wpStill P ops w K' rest (a.put d v) := fun d v hh =>
      wpStill_keep rest _ (fun a' ha => hk a' (by rw [ha, put_defers])) hh
    unfold wpStill at h ⊢
    split
    · rename_i hw
      rw [if_pos hw] at h
      unfold Oper.still at *
      generalize (execOp a.eval o).run P w = x at *
      cases x with
      | ok n w' =>
        cases n <;> simp only [Oper.stillUpon] at h ⊢
        case enter f args => obtain ⟨h1, v, hc, hn⟩ := h; exact ⟨h1, v, hc, ih _ _ hn⟩
        case value v => exact ⟨h.1, ih _ _ h.2⟩
        case skip => exact ⟨h.1, ih _ _ h.2⟩
      | halt x w' => simp only [Oper.stillUpon] at h
    · rename_i hw
      rw [if_neg hw] at h
      exact ih _ _ h
/-- within a region that leaves memory alone, what is told otherwise may be told as it was at its end -/
theorem still_view {H' : List HA} {ops : Array Oper} {l : List Oper} (ht : Turn H H') (h : ∀ L : Act → World → Prop, (∀ V', Goes E k V' H → ∀ a w, Rel E V' H' a w → L a w) → StillL E ops l (.loop L :: k) V H') : StillL E ops l k V H := by
  intro a w r
  refine wpStill_keep _ _ (fun a' hd hl => hl rfl hd) (h (fun a' w' => w' = w → a'.defers = a.defers → Qof E k .normal a' w') (fun V' hg a' w' r' hw hd => by
    subst hw
    obtain ⟨h1, hh, h3, _⟩ := r'
    obtain ⟨_, _, _, o, hb, ht, hs⟩ := r
    exact hg a' w' ⟨h1, hh, h3, o, hb, by rw [hd]; exact ht, hs⟩) a w (r.turn ht))
theorem goes_view {L : Act → World → Prop} {H' H2 : List HA} (hL : ∀ V', Goes E k V' H → ∀ a w, Rel E V' H' a w → L a w) (lst : List (Nat × Value)) (is : List Nat) (hl : ∀ x ∈ lst, V x.1 = some x.2) (hn : is.Nodup) (hG : Picks is H2 H')
    (h : Goes E k (VF.of lst) H) : Goes E (.loop L :: k) V H2 := fun a w r => hL _ h a w ((r.vle (VF.le_of _ hl)).pick hn hG)
/-- the block that a ghost names -/
def blk (v : Value) : Nat := (Value.sbase v).block
end Go.Abs
namespace Go.Abs
set_option linter.unusedSimpArgs false
set_option linter.unusedVariables false
variable {E : Env} {k : List KI} {V : VF} {H : List HA}
section
variable {P : Program} {d : Option Nat} {ty : TypeId} {pos : String} {af : Array Edge} {g : Option (Nat × Bool)}
end
end Go.Abs
namespace Go.Abs
variable {E : Env} {k : List KI} {V : VF} {H : List HA}

theorem bltF {a b : Nat} (h : b ≤ a) : Nat.blt a b = false := by
  cases e : Nat.blt a b with
  | false => rfl
  | true => simp at e; omega
theorem bltT {a b : Nat} (h : a < b) : Nat.blt a b = true := by simpa using h
theorem alloc_old (w : World) (o : Obj) (k : Nat) (h : k < w.heap.size) : (w.alloc o).heap[k]? = w.heap[k]? := by
  simp only [World.alloc, Array.getElem?_push]
  rw [if_neg (by omega)]
/-- the loop's record is ours -/
def loopHA (l : Nat) (r : Loop) : HA :=
  ⟨fun w o k => o l = .mine k ∧ l < w.heap.size ∧ w.heap[l]? = some (.loop r), fun hs h1 _ ⟨a, b, c⟩ => ⟨(h1 _ b a).1, Nat.lt_of_lt_of_le b hs, (h1 _ b a).2.trans c⟩⟩
/-- a loop's record and what its body works upon, as one -/
def packHA {G : Type} (l : Nat) (r : Loop) (Hs : G → List HA) : HA :=
  ⟨fun w o k => ∃ g o', Bnd w o' ∧ Sats w o' (loopHA l r :: Hs g) ∧ (∀ b j, o' b = .mine j → o b = .mine k ∧ b < w.heap.size) ∧ (∀ b, b < w.heap.size → o' b = .no → o b = .no),
   fun {w w' o o2 k k2} hs h1 h2 ⟨g, o', hb, hS, hm, hn⟩ => by
    refine ⟨g, fun b => bif Nat.blt b w.heap.size then o' b else (bif Nat.blt b w'.heap.size then .far else .no), ?_, ?_, ?_, ?_⟩
    · intro b hb'
      have e1 : Nat.blt b w.heap.size = false := bltF (Nat.le_trans hs hb')
      have e2 : Nat.blt b w'.heap.size = false := bltF hb'
      simp [e1, e2]
    · intro j h hj
      refine h.keep hs (fun b hlt ho => ?_) (fun b hlt ho => ?_) (hS j h hj)
      · have e1 : Nat.blt b w.heap.size = true := bltT hlt
        exact ⟨by simp [e1, ho], (h1 b hlt (hm b j ho).1).2⟩
      · have e1 : Nat.blt b w.heap.size = true := bltT hlt
        exact ⟨by simp [e1, ho], (h2 b hlt (hn b hlt ho)).2⟩
    · intro b j ho
      cases e1 : Nat.blt b w.heap.size with
      | true =>
        simp only [e1, cond_true] at ho
        have := hm b j ho
        exact ⟨(h1 b this.2 this.1).1, Nat.lt_of_lt_of_le this.2 hs⟩
      | false =>
        simp only [e1, cond_false] at ho
        cases e2 : Nat.blt b w'.heap.size <;> simp [e2] at ho
    · intro b hlt ho
      cases e1 : Nat.blt b w.heap.size with
      | true =>
        simp only [e1, cond_true] at ho
        have hlt' : b < w.heap.size := by simpa using e1
        exact (h2 b hlt' (hn b hlt' ho)).1
      | false =>
        have e2 : Nat.blt b w'.heap.size = true := by simpa using hlt
        simp [e1, e2] at ho⟩

/-- all but what k holds stays -/
def TrK (w : World) (o : Own) (k : Nat) (w' : World) (o' : Own) : Prop :=
  Tr w o w' o' ∧ ∀ b j, b < w.heap.size → j ≠ k → o b = .mine j → o' b = .mine j ∧ w'.heap[b]? = w.heap[b]?
/-- a call of yield in what A says -/
def YMeets (P : Program) (l : Nat) (args : List Value) (A : HA) (b : Bool) (A' : HA) : Prop :=
  ∀ w o k, Bnd w o → A.p w o k → ∃ f tmps assign body, (Instr.yield l args.toArray).run P w = .ok (.round l f tmps assign body) w ∧
    RoundIn (FR none) 0 P l f tmps assign body w (fun e w'' => e = .returned (.bool b) ∧ ∃ o', Bnd w'' o' ∧ TrK w o k w'' o' ∧ A'.p w'' o' k)

theorem t_yield {P : Program} {d : Option Nat} {ty : TypeId} {pos : String} {af : Array Edge} {g : Option (Nat × Bool)} {fx : Operand} {xs : Array Operand} {Ts : Array TypeId} {vs : List Value} {A A' : HA} {b : Bool} {l : Nat}
    (m : Nat) (hfx : V.ev fx = some (.func (.yield l) #[] #[])) (hxs : xs.toList.map V.ev = vs.map some) (hm : H[m]? = some A) (hy : YMeets P l vs A b A') :
    OpR P ⟨d, .call ⟨.value fx, xs, Ts⟩, ty, pos, af, g⟩ V H (fun v' H' => v' = .bool b ∧ H' = H.set m A') := by
  refine ⟨fun c h => by simp at h, fun ρ w o hf hb hs => ?_⟩
  have hargs : (xs.map ρ) = vs.toArray := by
    apply Array.ext'
    rw [Array.toList_map]
    generalize xs.toList = l at hxs
    clear hy
    induction l generalizing vs with
    | nil => cases vs <;> simp_all
    | cons x r ih =>
      cases vs with
      | nil => simp at hxs
      | cons v vs =>
        simp only [List.map_cons, List.cons.injEq] at hxs ⊢
        exact ⟨hf _ _ hxs.1, ih hxs.2⟩
  obtain ⟨f, tmps, assign, body, e, hr⟩ := hy w o m hb (hs m A hm)
  refine ⟨l, f, tmps, assign, body, ?_, hr.mono ?_⟩
  · simp [execOp, resolve, invoke, Deferred.ofValue, hf fx _ hfx, hargs]
    exact e
  · rintro e w'' ⟨rfl, o', hb', ht, ha⟩
    refine ⟨_, rfl, H.set m A', o', ⟨rfl, rfl⟩, hb', ht.1, ?_⟩
    intro j h hj
    by_cases hjm : m = j
    · subst hjm
      rw [List.getElem?_set] at hj
      simp at hj
      obtain ⟨_, rfl⟩ := hj
      exact ha
    · rw [List.getElem?_set_ne hjm] at hj
      exact h.keep ht.1.size (fun b hlt ho => ht.2 b j hlt (Ne.symm hjm) ho) (fun b hlt ho => ht.1.no b hlt ho) (hs j h hj)

/-- the record of a loop's statement -/
def recOf (fn : FuncId) (tmps : Array Value) (ps : Array Tmp) (assign body : Code) (D : Nat) (st : LoopState) (pe : Option Code) : Loop :=
  { state := st, pending := pe, fn := fn, tmps := tmps, params := ps, assign := assign, body := body, defers := D }
/-- what the statement holds between two rounds: i: the jump by which a round has left -/
def loopYA {S G : Type} (l : Nat) (rc : LoopState → Option Code → Loop) (jumps : List Code) (Hs : S → G → List HA) : S × Option Nat → HA
  | (s, none) => packHA l (rc .ready none) (Hs s)
  | (s, some i) => packHA l (rc .done (jumps[i]?)) (Hs s)
def yieldOf {S X : Type} (step : S → X → Option (S × Option Nat)) (σ : S × Option Nat) (x : X) : Option ((S × Option Nat) × Bool) :=
  match σ.2 with
  | none => (step σ.1 x).map fun r => (r, r.2.isNone)
  | some _ => none
def roundOK : Exit → Option Nat → List Code → Prop
  | .normal, none, _ => True
  | .ret, some i, jumps => jumps[i]? = some .ret
  | .exit id, some i, jumps => jumps[i]? = some (.exit id)
  | _, _, _ => False
def EnvA (P : Program) (n : Nat) (w0 : World) (o0 : Own) (l : Nat) : Env :=
  { P := P, n := n, w0 := w0, o0 := o0, r := some l, B := fun _ _ _ => False, np := fun _ _ _ _ _ _ h => h, no := fun _ _ h => h }
def EnvR {G : Type} (P : Program) (n : Nat) (w0 : World) (o0 : Own) (l : Nat) (Hs : G → List HA) (j : Option Nat) (jumps : List Code) : Env :=
  { P := P, n := n, w0 := w0, o0 := o0, r := some l, B := fun e _ w => roundOK e j jumps ∧ ∃ g o, Bnd w o ∧ Tr w0 o0 w o ∧ Sats w o (Hs g),
    np := fun _ _ _ _ _ _ h => by cases j <;> exact h.1.elim, no := fun _ _ h => by cases j <;> exact h.1.elim }
def isK (k : Nat) : Ow → Bool
  | .mine j => j == k
  | _ => false
/-- who owns what behind a round -/
def backO (l k n : Nat) (o o3 : Own) : Own := fun b => if b = l then .mine k else if b < n ∧ isK k (o b) = false then o b else (match o3 b with | .mine _ => .mine k | x => x)
def upO (l : Nat) (o3 : Own) : Own := fun b => if b = l then .mine 0 else (match o3 b with | .mine i => .mine (i + 1) | x => x)
def downO (o : Own) : Own := fun b => match o b with | .mine 0 => .far | .mine (i + 1) => .mine i | x => x

theorem round_meets {S X G : Type} {P : Program} {n l : Nat} {fn : FuncId} {tmps : Array Value} {ps : Array Tmp} {assign body : Code} {D : Nat} {jumps : List Code} {Hs : S → G → List HA} {step : S → X → Option (S × Option Nat)}
    (enc : X → List Value) (V0 : X → VF) (hsz : tmps.size = n) (hps : ∀ x, (enc x).length = ps.size)
    (hV0 : ∀ x, Agree (V0 x) { tmps := (ps.zip (enc x).toArray).foldl (fun tmps (t, a) => tmps.setIfInBounds t a) tmps, defers := [] })
    (hround : ∀ s x s' j, step s x = some (s', j) → ∀ g w0 o0 (L : Act → World → Prop),
      (∀ V1 H1, (∀ w1 o1, Run (EnvR P n w1 o1 l (Hs s') j jumps) body [] V1 H1) → ∀ a w, Rel (EnvA P n w0 o0 l) V1 H1 a w → L a w) → Run (EnvA P n w0 o0 l) assign [.loop L] (V0 x) (Hs s g))
    (σ : S × Option Nat) (x : X) (r : (S × Option Nat) × Bool) (h : yieldOf step σ x = some r) :
    YMeets P l (enc x) (loopYA l (recOf fn tmps ps assign body D) jumps Hs σ) r.2 (loopYA l (recOf fn tmps ps assign body D) jumps Hs r.1) := by
  obtain ⟨s, i0⟩ := σ
  cases i0 with
  | some i => simp [yieldOf] at h
  | none =>
  simp only [yieldOf, Option.map_eq_some_iff] at h
  obtain ⟨⟨s', j⟩, hst, rfl⟩ := h
  rintro w o k hb ⟨g, o', hb', hS, hm, hn⟩
  obtain ⟨hl1, hl2, hl3⟩ := hS 0 _ rfl
  refine ⟨fn, _, assign, body, run_yield hl3 (by simp [recOf, hps]), roundIn_of_wpIn (F := FR none) trivial ?_⟩
  have hdo : ∀ b, downO o' b = .far → ∀ j, o' b = .mine j → j = 0 := by
    intro b hb j hj
    cases j with
    | zero => rfl
    | succ j => simp [downO, hj] at hb
  have hszf : ∀ (ts : List (Tmp × Value)) (t0 : Array Value), (ts.foldl (fun tmps (t, a) => tmps.setIfInBounds t a) t0).size = t0.size := by
    intro ts
    induction ts with
    | nil => intro t0; rfl
    | cons p r ih => intro t0; rw [List.foldl_cons, ih]; simp
  refine hround s x s' j hst g w (downO o') _ ?_ _ w ⟨?_, fun _ => rfl, hV0 x, downO o', ?_, TrD.of ⟨Tr.refl _ _, Marked.nil _ _ _⟩ rfl, ?_⟩
  · -- the body
    rintro V1 H1 hbody a1 w1 ⟨hz1, hd1, ha1, o1, hb1, ht1, hs1⟩
    have hd1 : a1.defers = [] := hd1 rfl
    have ht1 : Tr w (downO o') w1 o1 := ht1.tr
    obtain ⟨hf1, hh1⟩ := ht1.far l hl2 (by simp [downO, hl1])
    have hl1' : w1.heap[l]? = some (.loop (recOf fn tmps ps assign body D .ready none)) := hh1.trans hl3
    have hlt1 : l < w1.heap.size := Nat.lt_of_lt_of_le hl2 ht1.size
    refine ⟨_, run_beginRound hl1' rfl, ?_⟩
    obtain ⟨w2, hw2⟩ : ∃ w2, w1.putObj l (.loop { recOf fn tmps ps assign body D .ready none with state := .busy }) = w2 := ⟨_, rfl⟩
    rw [hw2]
    have hsz2 : w2.heap.size = w1.heap.size := by rw [← hw2]; exact World.putObj_size
    have hl2' : w2.heap[l]? = some (.loop { recOf fn tmps ps assign body D .ready none with state := .busy }) := by rw [← hw2]; exact World.putObj_heap_same hlt1
    have hot2 : ∀ b, b ≠ l → w2.heap[b]? = w1.heap[b]? := fun b hb => by rw [← hw2]; exact World.putObj_heap_other hb
    refine wpIn_mono (hbody w2 o1 a1 w2 ⟨hz1, fun _ => hd1, ha1, o1, fun b hb => hb1 b (by omega), TrD.of ⟨Tr.refl _ _, by rw [hd1]; exact Marked.nil _ _ _⟩ rfl, ?_⟩) ?_
    · intro j h hj
      exact h.keep (Nat.le_of_eq hsz2.symm) (fun b _ ho => ⟨ho, hot2 b (by rintro rfl; rw [hf1] at ho; cases ho)⟩) (fun b _ ho => ⟨ho, hot2 b (by rintro rfl; rw [hf1] at ho; cases ho)⟩) (hs1 j h hj)
    · rintro e a3 w3 ⟨hok, g', o3, hb3, ht3, hs3⟩
      obtain ⟨hf3, hh3⟩ := ht3.far l (by omega) hf1
      have hl3' : w3.heap[l]? = some (.loop { recOf fn tmps ps assign body D .ready none with state := .busy }) := hh3.trans hl2'
      have hlt3 : l < w3.heap.size := Nat.lt_of_lt_of_le (by omega) ht3.size
      -- what lay apart from the round
      have apart : ∀ b, b < w.heap.size → isK k (o b) = false → b ≠ l ∧ o3 b = o' b ∧ (o' b = .no ∨ o' b = .far) ∧ w3.heap[b]? = w.heap[b]? := by
        intro b hlt hk
        have hne : ∀ i, o' b ≠ .mine i := fun i hi => by
          have := (hm b i hi).1
          rw [this] at hk; simp [isK] at hk
        have hbl : b ≠ l := by rintro rfl; exact hne 0 hl1
        cases ho : o' b with
        | mine i => exact absurd ho (hne i)
        | no =>
          obtain ⟨e1, e2⟩ := ht1.no b hlt (by simp [downO, ho])
          obtain ⟨e3, e4⟩ := ht3.no b (by have := ht1.size; omega) e1
          exact ⟨hbl, e3, .inl rfl, e4.trans ((hot2 b hbl).trans e2)⟩
        | far =>
          obtain ⟨e1, e2⟩ := ht1.far b hlt (by simp [downO, ho])
          obtain ⟨e3, e4⟩ := ht3.far b (by have := ht1.size; omega) e1
          exact ⟨hbl, e3, .inr rfl, e4.trans ((hot2 b hbl).trans e2)⟩
      have fin : ∀ (jump : Option Code) (st : LoopState), (∃ o2, Bnd (w3.putObj l (.loop (recOf fn tmps ps assign body D st jump))) o2 ∧ TrK w o k (w3.putObj l (.loop (recOf fn tmps ps assign body D st jump))) o2 ∧
          (packHA l (recOf fn tmps ps assign body D st jump) (Hs s')).p (w3.putObj l (.loop (recOf fn tmps ps assign body D st jump))) o2 k) := by
        intro jump st
        obtain ⟨w4, hw4⟩ : ∃ w4, w3.putObj l (.loop (recOf fn tmps ps assign body D st jump)) = w4 := ⟨_, rfl⟩
        rw [hw4]
        have hsz4 : w4.heap.size = w3.heap.size := by rw [← hw4]; exact World.putObj_size
        have hl4 : w4.heap[l]? = some (.loop (recOf fn tmps ps assign body D st jump)) := by rw [← hw4]; exact World.putObj_heap_same hlt3
        have hot4 : ∀ b, b ≠ l → w4.heap[b]? = w3.heap[b]? := fun b hb => by rw [← hw4]; exact World.putObj_heap_other hb
        have hsz : w.heap.size ≤ w4.heap.size := by have := ht1.size; have := ht3.size; omega
        have hkeep : ∀ b, b < w.heap.size → isK k (o b) = false → backO l k w.heap.size o o3 b = o b ∧ w4.heap[b]? = w.heap[b]? := by
          intro b hlt hk
          obtain ⟨h1, _, _, h4⟩ := apart b hlt hk
          exact ⟨by simp [backO, h1, hlt, hk], (hot4 b h1).trans h4⟩
        refine ⟨backO l k w.heap.size o o3, ?_, ⟨⟨?_, ?_, ?_, hsz, ?_, ?_⟩, ?_⟩, g', upO l o3, ?_, ?_, ?_, ?_⟩
        · intro b hb
          have h1 : b ≠ l := by omega
          have h2 : ¬ (b < w.heap.size) := by omega
          simp [backO, h1, h2, hb3 b (by omega)]
        · rw [← hw4]; exact ht3.os.trans (by rw [← hw2]; exact ht1.os)
        · rw [← hw4]; exact ht3.tape.trans (by rw [← hw2]; exact ht1.tape)
        · rw [← hw4]; exact ht3.output.trans (by rw [← hw2]; exact ht1.output)
        · intro b hlt ho
          obtain ⟨e1, e2⟩ := hkeep b hlt (by simp [isK, ho])
          exact ⟨e1.trans ho, e2⟩
        · intro b hlt ho
          obtain ⟨e1, e2⟩ := hkeep b hlt (by simp [isK, ho])
          exact ⟨e1.trans ho, e2⟩
        · intro b i hlt hi ho
          obtain ⟨e1, e2⟩ := hkeep b hlt (by simp [isK, ho, hi])
          exact ⟨e1.trans ho, e2⟩
        · intro b hb
          have h1 : b ≠ l := by omega
          simp [upO, h1, hb3 b (by omega)]
        · intro i h hi
          cases i with
          | zero => simp at hi; subst hi; exact ⟨by simp [upO], by omega, hl4⟩
          | succ i =>
            refine h.keep (Nat.le_of_eq hsz4.symm) (fun b _ ho => ?_) (fun b _ ho => ?_) (hs3 i h (by simpa using hi))
            · have hbl : b ≠ l := by rintro rfl; rw [hf3] at ho; cases ho
              exact ⟨by simp [upO, hbl, ho], hot4 b hbl⟩
            · have hbl : b ≠ l := by rintro rfl; rw [hf3] at ho; cases ho
              exact ⟨by simp [upO, hbl, ho], hot4 b hbl⟩
        · intro b i ho
          by_cases hbl : b = l
          · subst hbl; exact ⟨by simp [backO], by omega⟩
          · simp only [upO, hbl, if_false] at ho
            cases h3 : o3 b with
            | no => simp [h3] at ho
            | far => simp [h3] at ho
            | mine q =>
              have hb : b < w3.heap.size := by
                apply Nat.lt_of_not_le
                intro hle
                rw [hb3 b hle] at h3; cases h3
              refine ⟨?_, by omega⟩
              have : ¬ (b < w.heap.size ∧ isK k (o b) = false) := fun ⟨h1, h2⟩ => by
                obtain ⟨_, e1, e2, _⟩ := apart b h1 h2
                rw [h3] at e1
                rcases e2 with e2 | e2 <;> rw [e2] at e1 <;> cases e1
              simp [backO, hbl, this, h3]
        · intro b hlt ho
          by_cases hbl : b = l
          · subst hbl; simp [upO] at ho
          · simp only [upO, hbl, if_false] at ho
            have h3 : o3 b = .no := by
              cases h3 : o3 b with
              | no => rfl
              | far => simp [h3] at ho
              | mine q => simp [h3] at ho
            by_cases hc : b < w.heap.size ∧ isK k (o b) = false
            · obtain ⟨_, e1, e2, _⟩ := apart b hc.1 hc.2
              rw [h3] at e1
              unfold backO
              rw [if_neg hbl, if_pos hc]
              exact hn b hc.1 e1.symm
            · unfold backO
              rw [if_neg hbl, if_neg hc, h3]
      cases e with
      | normal =>
        cases j with
        | some i => exact hok.elim
        | none => obtain ⟨o2, f1, f2, f3⟩ := fin none .ready; exact ⟨_, _, run_endRound none hl3', rfl, o2, f1, f2, f3⟩
      | ret =>
        cases j with
        | none => exact hok.elim
        | some i =>
          replace hok : jumps[i]? = some .ret := hok
          obtain ⟨o2, f1, f2, f3⟩ := fin (some .ret) .done
          exact ⟨_, _, run_endRound (some .ret) hl3', rfl, o2, f1, f2, by simp only [loopYA, hok]; exact f3⟩
      | exit id =>
        cases j with
        | none => exact hok.elim
        | some i =>
          replace hok : jumps[i]? = some (.exit id) := hok
          obtain ⟨o2, f1, f2, f3⟩ := fin (some (.exit id)) .done
          exact ⟨_, _, run_endRound (some (.exit id)) hl3', rfl, o2, f1, f2, by simp only [loopYA, hok]; exact f3⟩
      | goto t => cases j <;> exact hok.elim
      | panic c => cases j <;> exact hok.elim
      | outgrown => cases j <;> exact hok.elim
  · rw [← Array.foldl_toList]; exact (hszf _ _).trans hsz
  · intro b hb; simp [downO, hb' b hb]
  · intro i h hi
    refine h.keep (Nat.le_refl _) (fun b _ ho => ⟨by simp [downO, ho], rfl⟩) (fun b _ ho => ⟨by simp [downO, ho], rfl⟩) (hS (i + 1) h (by simpa using hi))

/-! a round's ends -/
section
variable {S G : Type} {P : Program} {n l : Nat} {w0 : World} {o0 : Own} {Hs : G → List HA} {jumps : List Code} {j : Option Nat} {body : Code}
theorem goes_round {w0' : World} {o0' : Own} {L : Act → World → Prop} (hL : ∀ V1 H1, (∀ w1 o1, Run (EnvR P n w1 o1 l Hs j jumps) body [] V1 H1) → ∀ a w, Rel (EnvA P n w0' o0' l) V1 H1 a w → L a w)
    (h : ∀ w1 o1, Run (EnvR P n w1 o1 l Hs j jumps) body [] V H) : Goes (EnvA P n w0' o0' l) (.loop L :: k) V H := fun a w r => hL V H h a w r
theorem round_go (g : G) (is : List Nat) (hn : is.Nodup) (hG : Picks is H (Hs g)) (hj : j = none) : Goes (EnvR P n w0 o0 l Hs j jumps) [] V H := by
  subst hj
  intro a w r
  obtain ⟨_, _, _, o, hb, ht, hs⟩ := r.pick hn hG
  exact ⟨trivial, g, o, hb, ht.tr, hs⟩
end

/-! the statement -/
def VF.sets : List (Nat × Value) → VF → VF
  | [], V => V
  | (p, v) :: r, V => VF.sets r (V.set p v)
theorem agree_sets {n : Nat} : ∀ (ps : List Nat) (vs : List Value) (V : VF) (t : Array Value), t.size = n → (ps.all fun p => Nat.blt p n) = true → Agree V { tmps := t, defers := [] } →
    Agree (VF.sets (ps.zip vs) V) { tmps := (ps.zip vs).foldl (fun tmps (t, a) => tmps.setIfInBounds t a) t, defers := [] }
  | [], vs, V, t, _, _, h => by simpa [VF.sets] using h
  | p :: ps, [], V, t, _, _, h => by simpa [VF.sets] using h
  | p :: ps, v :: vs, V, t, hz, hp, h => by
    simp only [List.all_cons, Bool.and_eq_true] at hp
    have hlt : p < t.size := by rw [hz]; simpa using hp.1
    refine agree_sets ps vs (V.set p v) (t.setIfInBounds p v) (by simp [hz]) hp.2 ?_
    intro u x hx
    rcases VF.set_eq hx with ⟨rfl, rfl⟩ | ⟨hne, hx⟩
    · simp [hlt]
    · have := h u x hx
      simp only [Array.getD_eq_getD_getElem?] at this ⊢
      rw [Array.getElem?_setIfInBounds_ne (by omega)]
      exact this
theorem lentOut_snoc : ∀ (sh : List (Nat × Nat)) (H : List HA), lentOut sh (H ++ [HA.emp]) = lentOut sh H ++ [HA.emp]
  | [], H => rfl
  | s :: sh, H => by
    unfold lentOut
    rw [List.foldl_cons, List.foldl_cons]
    have key : (if s.2 == 2 then (H ++ [HA.emp]).set s.1 HA.emp else H ++ [HA.emp]) = (if s.2 == 2 then H.set s.1 HA.emp else H) ++ [HA.emp] := by
      split
      · by_cases hlt : s.1 < H.length
        · rw [List.set_append_left _ _ hlt]
        · rw [List.set_append_right _ _ (by omega), List.set_eq_of_length_le (l := H) (by omega)]
          by_cases h0 : s.1 - H.length = 0
          · rw [h0]; rfl
          · rw [List.set_eq_of_length_le (by simp; omega)]
      · rfl
    rw [key]
    exact lentOut_snoc sh _

theorem sats_add' {w : World} {o : Own} {H : List HA} {g : HA} (hs : Sats w o H) (hg : g.p w o H.length) : Sats w o (H ++ [g]) := by
  intro j h hj
  rw [List.getElem?_append] at hj
  split at hj
  · exact hs j h hj
  · rename_i hlt
    have h0 : j - H.length = 0 := by
      by_cases h0 : j - H.length = 0
      · exact h0
      · rw [show j - H.length = (j - H.length - 1) + 1 by omega] at hj; simp at hj
    rw [h0] at hj
    simp at hj
    subst hj
    obtain rfl : j = H.length := by omega
    exact hg
theorem run_rangeFunc {S X G : Type} {gx : Operand} {gf : FuncId} {caps : List Value} {ps : List Tmp} {assign body : Code} {jumps : List Code} {Hs : S → G → List HA} {step : S → X → Option (S × Option Nat)} (enc : X → List Value)
    (s0 : S) (g0 : G) (is : List Nat) (sh : List (Nat × Nat)) {Hc Gr : List HA} {r : S × Option Nat}
    (hE : E.r = none) (hg : V.ev gx = some (.func (.func gf) #[] caps.toArray)) (hcall : ∀ args w, (callFunc gf args).run E.P w = .ok (.enter gf args) w)
    (hps : ∀ x, (enc x).length = ps.length) (hpn : (ps.all fun p => Nat.blt p E.n) = true) (hn : is.Nodup) (hG : Picks is H (Hs s0 g0))
    (hround : ∀ l s x s' j, step s x = some (s', j) → ∀ g w0 o0 (L : Act → World → Prop),
      (∀ V1 H1, (∀ w1 o1, Run (EnvR E.P E.n w1 o1 l (Hs s') j jumps) body [] V1 H1) → ∀ a w, Rel (EnvA E.P E.n w0 o0 l) V1 H1 a w → L a w) → Run (EnvA E.P E.n w0 o0 l) assign [.loop L] (VF.sets (ps.zip (enc x)) V) (Hs s g))
    (hit : ∀ (l : Nat) (A : S × Option Nat → HA), (∀ σ x r, yieldOf step σ x = some r → YMeets E.P l (enc x) (A σ) r.2 (A r.1)) →
      Meets E.P gf (.func (.yield l) #[] #[] :: caps) (A (s0, none) :: Hc) (fun v G => v = .tuple #[] ∧ G = A r :: Gr))
    (hsh : ShowsX (lentOut (is.map fun i => (i, 2)) H) sh Hc) (hok : okX ((H.length, 2) :: sh) = true) (hst : (sh.all fun s => s.2 != 1) = true)
    (hgo : r.2 = none → ∀ g, Goes E k V (lentOut sh (lentOut (is.map fun i => (i, 2)) H) ++ Gr ++ Hs r.1 g))
    (hjump : ∀ i, r.2 = some i → ∃ c, jumps[i]? = some c ∧ ∀ g, Run E c k V (lentOut sh (lentOut (is.map fun i => (i, 2)) H) ++ Gr ++ Hs r.1 g)) (hnd : E.nd = false := by exact rfl) :
    Run E (.rangeFunc gx ps.toArray assign body) k V H := by
  intro a w rel
  have hag := rel.2.2.1.ev hg
  refine wpIn_rangeFunc ?_
  intro fn _
  obtain ⟨hz, hd, ha, o, hb, ht, hs⟩ := rel
  show ∃ l mark w₁ d w₁' f args w₂, (Instr.enterLoop fn a.tmps ps.toArray assign body E.r).run E.P w = .ok (l, mark) w₁ ∧ _
  rw [hE]
  obtain ⟨H1, hH1⟩ : ∃ H1, lentOut (is.map fun i => (i, 2)) H = H1 := ⟨_, rfl⟩
  rw [hH1] at hsh hgo hjump
  obtain ⟨rc, hrc⟩ : ∃ rc, recOf fn a.tmps ps.toArray assign body w.heap.size = rc := ⟨_, rfl⟩
  obtain ⟨W1, hW1⟩ : ∃ W1, (w.alloc (.deferred (some []))).alloc (.loop (rc .ready none)) = W1 := ⟨_, rfl⟩
  have hlen1 : H1.length = H.length := by rw [← hH1]; exact lentOut_length _ _
  have hsize : W1.heap.size = w.heap.size + 2 := by rw [← hW1]; simp
  have hL1 : W1.heap[w.heap.size + 1]? = some (.loop (rc .ready none)) := by
    rw [← hW1]; have := World.alloc_heap_new (w.alloc (.deferred (some []))) (.loop (rc .ready none)); rwa [World.size_alloc] at this
  have hK1 : W1.heap[w.heap.size]? = some (.deferred (some [])) := by
    rw [← hW1]; exact (alloc_old _ _ _ (by simp)).trans (World.alloc_heap_new w _)
  have hO1 : ∀ b, b < w.heap.size → W1.heap[b]? = w.heap[b]? := fun b hb => by
    rw [← hW1]; exact (alloc_old _ _ _ (by simp; omega)).trans (alloc_old _ _ _ hb)
  obtain ⟨l, hl⟩ : ∃ l, w.heap.size + 1 = l := ⟨_, rfl⟩
  rw [hl] at hL1
  refine ⟨l, [{ target := .collected w.heap.size, args := #[] }], W1, { target := .fn (.func gf) caps.toArray, args := #[.func (.yield l) #[] #[]] }, W1, gf, (.func (.yield l) #[] #[] :: caps).toArray, W1, ?_, ?_, fun _ _ => trivial, ?_, (fun h => nomatch h), ?_⟩
  · rw [← hW1, ← hrc, ← hl]; exact run_enterLoop_outer _ _ _ _ _
  · simp only [resolve, hag]
    simp [go_sem]
  · simp [invoke, go_sem, hcall]
  · -- who owns what while the function runs
    obtain ⟨o1, ho1⟩ : ∃ o1 : Own, (fun b => if b = w.heap.size then .far else if b = l then .mine H.length else (match o b with | .mine j => if j ∈ is then .mine H.length else .mine j | x => x)) = o1 := ⟨_, rfl⟩
    obtain ⟨op0, hop0⟩ : ∃ op0 : Own, (fun b => if b = w.heap.size then .far else if b = l then .mine 0 else (match o b with | .mine j => if j ∈ is then .mine (is.idxOf j + 1) else .far | x => x)) = op0 := ⟨_, rfl⟩
    have o1D : o1 w.heap.size = .far := by rw [← ho1]; simp
    have o1l : o1 l = .mine H.length := by rw [← ho1]; have : ¬ l = w.heap.size := by omega
                                           simp [this]
    have o1o : ∀ b, b < w.heap.size → o1 b = (match o b with | .mine j => if j ∈ is then .mine H.length else .mine j | x => x) := fun b hb => by
      have h1 : ¬ b = w.heap.size := by omega
      have h2 : ¬ b = l := by omega
      rw [← ho1]; simp [h1, h2]
    have op0o : ∀ b, b < w.heap.size → op0 b = (match o b with | .mine j => if j ∈ is then .mine (is.idxOf j + 1) else .far | x => x) := fun b hb => by
      have h1 : ¬ b = w.heap.size := by omega
      have h2 : ¬ b = l := by omega
      rw [← hop0]; simp [h1, h2]
    have op0l : op0 l = .mine 0 := by rw [← hop0]; have : ¬ l = w.heap.size := by omega
                                      simp [this]
    have op0D : op0 w.heap.size = .far := by rw [← hop0]; simp
    have hb1 : Bnd W1 o1 := fun b hb' => by
      have h1 : ¬ b = w.heap.size := by omega
      have h2 : ¬ b = l := by omega
      rw [← ho1]; simp [h1, h2, hb b (by omega)]
    have hbp0 : Bnd W1 op0 := fun b hb' => by
      have h1 : ¬ b = w.heap.size := by omega
      have h2 : ¬ b = l := by omega
      rw [← hop0]; simp [h1, h2, hb b (by omega)]
    have ht1 : Tr w o W1 o1 := ⟨by rw [← hW1]; rfl, by rw [← hW1]; rfl, by rw [← hW1]; rfl, by omega,
      fun b hlt ho => ⟨by rw [o1o b hlt, ho], hO1 b hlt⟩, fun b hlt ho => ⟨by rw [o1o b hlt, ho], hO1 b hlt⟩⟩
    obtain ⟨A, hA⟩ : ∃ A, loopYA l rc jumps Hs = A := ⟨_, rfl⟩
    have hA0 : (A (s0, none)).p W1 o1 H.length := by
      rw [← hA]
      refine ⟨g0, op0, hbp0, ?_, ?_, ?_⟩
      · intro i h hi
        cases i with
        | zero => simp at hi; subst hi; exact ⟨op0l, by omega, hL1⟩
        | succ i =>
          obtain ⟨q, hq, hHq⟩ := Picks.get hG i h (by simpa using hi)
          have hm : q ∈ is := List.mem_of_getElem? hq
          obtain ⟨hlt, he⟩ := List.getElem?_eq_some_iff.1 hq
          have hidx : is.idxOf q = i := by subst he; exact hn.idxOf_getElem i hlt
          exact h.keep (w := w) (o := o) (k := q) (by omega) (fun b hlt ho => ⟨by rw [op0o b hlt, ho]; simp [hm, hidx], hO1 b hlt⟩) (fun b hlt ho => ⟨by rw [op0o b hlt, ho], hO1 b hlt⟩) (hs q h hHq)
      · intro b j ho
        by_cases h1 : b = l
        · subst h1; exact ⟨o1l, by omega⟩
        · by_cases h2 : b = w.heap.size
          · subst h2; rw [op0D] at ho; cases ho
          · by_cases h3 : b < w.heap.size
            · rw [op0o b h3] at ho
              rw [o1o b h3]
              cases h4 : o b with
              | no => simp [h4] at ho
              | far => simp [h4] at ho
              | mine q =>
                simp only [h4] at ho
                split at ho
                · rename_i hm; exact ⟨by simp [hm], by omega⟩
                · cases ho
            · rw [hbp0 b (by omega)] at ho; cases ho
      · intro b hlt ho
        by_cases h1 : b = l
        · subst h1; rw [op0l] at ho; cases ho
        · by_cases h2 : b = w.heap.size
          · subst h2; rw [op0D] at ho; cases ho
          · have h3 : b < w.heap.size := by omega
            rw [op0o b h3] at ho
            rw [o1o b h3]
            cases h4 : o b with
            | no => rfl
            | far => simp [h4] at ho
            | mine q =>
              simp only [h4] at ho
              split at ho <;> cases ho
    have hs1 : Sats W1 o1 (H1 ++ [A (s0, none)]) := by
      refine sats_add' ?_ (by rw [hlen1]; exact hA0)
      intro j h hj
      rcases lentOut_get (is.map fun i => (i, 2)) H j h (by rw [hH1]; exact hj) with rfl | ⟨h1, h2⟩
      · trivial
      · have hj' : j ∉ is := fun hm => h2 (j, 2) (List.mem_map.2 ⟨j, hm, rfl⟩) rfl rfl
        exact h.keep (w := w) (o := o) (k := j) (by omega) (fun b hlt ho => ⟨by rw [o1o b hlt, ho]; simp [hj'], hO1 b hlt⟩) (fun b hlt ho => ⟨by rw [o1o b hlt, ho], hO1 b hlt⟩) (hs j h h1)
    -- the function's contract
    have hM := hit l A (fun σ x r hr => by
      rw [← hA, ← hrc]
      refine round_meets enc (fun x => VF.sets (ps.zip (enc x)) V) hz (fun x => by simp [hps]) (fun x => ?_) (hround l) σ x r hr
      have := agree_sets ps (enc x) V a.tmps hz hpn ha
      rw [← Array.foldl_toList]
      simpa using this)
    have hshX : ShowsX (H1 ++ [A (s0, none)]) ((H.length, 2) :: sh) (A (s0, none) :: Hc) := by
      refine showsX_lend H.length (by rw [← hlen1]; simp) ⟨hsh.1, fun j m mode x hj hx => ?_⟩
      obtain ⟨h', e1, e2⟩ := hsh.2 j m mode x hj hx
      exact ⟨h', by rw [List.getElem?_append_left (List.getElem?_eq_some_iff.1 e1).1]; exact e1, e2⟩
    have hop := t_callx (P := E.P) (V := fun _ => none) (d := none) (ty := 0) (pos := "") (af := #[]) (g := none) (fx := .const (.func (.func gf) #[] caps.toArray)) (xs := #[.const (.func (.yield l) #[] #[])]) (Ts := #[]) (vs := [.func (.yield l) #[] #[]]) (cs := caps)
      ((H.length, 2) :: sh) rfl hcall rfl hM hshX hok (.inl (by simpa using hst)) a.eval W1 o1 (fun x v hx => Agree.ev (V := fun _ => none) (a := a) (fun t v h => by cases h) hx) hb1 hs1
    unfold Does at hop
    rw [show (execOp a.eval ⟨none, .call ⟨.value (.const (.func (.func gf) #[] caps.toArray)), #[.const (.func (.yield l) #[] #[])], #[]⟩, 0, "", #[], none⟩).run E.P W1 = .ok (.enter gf (.func (.yield l) #[] #[] :: caps).toArray) W1 by
      simp [execOp, resolve, invoke, Deferred.ofValue, Act.eval, hcall]] at hop
    refine CallsIn.mono (F := FR none) (callsIn_wide.2 hop) ?_
    rintro e w2 ⟨v, rfl, H', o2, ⟨G, ⟨_, rfl⟩, rfl⟩, hb2, ht2, hs2⟩
    have hout : lentOut ((H.length, 2) :: sh) (H1 ++ [A (s0, none)]) = lentOut sh H1 ++ [HA.emp] := by
      rw [← lentOut_snoc]
      unfold lentOut
      rw [List.foldl_cons]
      congr 1
      simp [← hlen1]
    rw [hout] at hs2
    have hlen2 : (lentOut sh H1).length = H.length := (lentOut_length _ _).trans hlen1
    -- behind the function
    have key : ∀ (s : S) (g : G) (st : LoopState) (pe : Option Code) (op : Own), st ≠ .busy → Bnd w2 op → Sats w2 op (loopHA l (rc st pe) :: Hs s g) → (∀ b j, op b = .mine j → o2 b = .mine (H.length + 1) ∧ b < w2.heap.size) → (∀ b, b < w2.heap.size → op b = .no → o2 b = .no) →
        ∃ w4, (Instr.endLoop l).run E.P w2 = .ok pe w4 ∧ Rel E V (lentOut sh H1 ++ Gr ++ Hs s g) { a with defers := { target := .collected w.heap.size, args := #[] } :: a.defers } w4 := by
      intro s g st pe op hst' hbp hsp hmp hnp
      obtain ⟨hp1, hp2, hp3⟩ := hsp 0 _ rfl
      have hst'' : (rc st pe).state ≠ .busy := by rw [← hrc]; exact hst'
      have hpe : (rc st pe).pending = pe := by rw [← hrc]; rfl
      obtain ⟨ob, hend⟩ : ∃ ob, (Instr.endLoop l).run E.P w2 = .ok pe (w2.putObj l ob) := by
        have h := run_endLoop (P := E.P) hp3 hst''
        rw [hpe] at h
        exact ⟨_, h⟩
      refine ⟨_, hend, ?_⟩
      obtain ⟨w4, hw4⟩ : ∃ w4, w2.putObj l ob = w4 := ⟨_, rfl⟩
      rw [hw4]
      have hsz4 : w4.heap.size = w2.heap.size := by rw [← hw4]; exact World.putObj_size
      have hot4 : ∀ b, b ≠ l → w4.heap[b]? = w2.heap[b]? := fun b hb => by rw [← hw4]; exact World.putObj_heap_other hb
      have hl2 : o2 l = .mine (H.length + 1) := (hmp l 0 hp1).1
      obtain ⟨o4, ho4⟩ : ∃ o4 : Own, (fun b => match o2 b with
        | .mine j => if j = H.length + 1 then (match op b with | .mine (q + 1) => .mine (H.length + Gr.length + q) | _ => .far) else if j < H.length then .mine j else .mine (j - 2)
        | x => x) = o4 := ⟨_, rfl⟩
      have o4n : ∀ b, o2 b = .no → o4 b = .no := fun b h => by rw [← ho4]; simp [h]
      have o4f : ∀ b, o2 b = .far → o4 b = .far := fun b h => by rw [← ho4]; simp [h]
      have hnl : ∀ b j, o2 b = .mine j → j ≠ H.length + 1 → b ≠ l := by rintro b j h1 h2 rfl; rw [hl2] at h1; cases h1; exact h2 rfl
      have hnn : ∀ b, o2 b = .no → b ≠ l := by rintro b h1 rfl; rw [hl2] at h1; cases h1
      have hnf : ∀ b, o2 b = .far → b ≠ l := by rintro b h1 rfl; rw [hl2] at h1; cases h1
      have ht4 : Tr w2 o2 w4 o4 := ⟨by rw [← hw4]; rfl, by rw [← hw4]; rfl, by rw [← hw4]; rfl, by omega, fun b _ ho => ⟨o4n b ho, hot4 b (hnn b ho)⟩, fun b _ ho => ⟨o4f b ho, hot4 b (hnf b ho)⟩⟩
      have hall : Tr w o w4 o4 := (ht1.trans ht2).trans ht4
      obtain ⟨hf1, hh1⟩ := (ht2.trans ht4).far w.heap.size (by omega) o1D
      obtain ⟨ms, ems, ht⟩ := ht
      refine ⟨hz, (fun h => by rw [hnd] at h; cases h), ha, o4, ?_, ⟨{ target := .collected w.heap.size, args := #[] } :: ms, by rw [ems]; rfl, ht.tr.trans hall, ?_, ?_⟩, ?_⟩
      · intro b hb'; exact o4n b (hb2 b (by omega))
      · intro d hd'
        rcases List.mem_cons.1 hd' with rfl | hd'
        · exact ⟨_, rfl, ht.tr.size, by have := ht2.size; omega, hf1, hh1.trans hK1⟩
        · exact (ht.mks.trans hall).1 d hd'
      · refine List.nodup_cons.2 ⟨fun hm => ?_, ht.mks.2⟩
        obtain ⟨D', e', _, h2, _, _⟩ := ht.mks.1 _ hm
        simp at e'
        omega
      · intro j h hj
        rw [List.append_assoc, List.getElem?_append] at hj
        split at hj
        · rename_i hlt
          have hlt' : j < H.length := by omega
          refine h.keep (w := w2) (o := o2) (k := j) (by omega) (fun b _ ho => ?_) (fun b _ ho => ⟨o4n b ho, hot4 b (hnn b ho)⟩) (hs2 j h (by rw [List.append_assoc, List.getElem?_append_left hlt]; exact hj))
          have h1 : ¬ j = H.length + 1 := by omega
          exact ⟨by rw [← ho4]; simp [ho, h1, hlt'], hot4 b (hnl b j ho h1)⟩
        · rename_i hge
          rw [hlen2] at hge hj
          rw [List.getElem?_append] at hj
          split at hj
          · rename_i hlt
            refine h.keep (w := w2) (o := o2) (k := j + 2) (by omega) (fun b _ ho => ?_) (fun b _ ho => ⟨o4n b ho, hot4 b (hnn b ho)⟩) (hs2 (j + 2) h ?_)
            · have h1 : ¬ j + 2 = H.length + 1 := by omega
              have h2 : ¬ j + 2 < H.length := by omega
              refine ⟨?_, hot4 b (hnl b _ ho h1)⟩
              rw [← ho4]; simp only [ho, h1, h2, if_false]; simp
            · rw [List.getElem?_append_right (by simp [hlen2]; omega)]
              simp only [List.length_append, hlen2, List.length_singleton]
              rw [show j + 2 - (H.length + 1) = (j - H.length) + 1 by omega, List.getElem?_cons_succ]
              exact hj
          · rename_i hge2
            have hq : (Hs s g)[j - H.length - Gr.length]? = some h := hj
            refine h.keep (w := w2) (o := op) (k := j - H.length - Gr.length + 1) (by omega) (fun b _ ho => ?_) (fun b hlt ho => ?_) (hsp (j - H.length - Gr.length + 1) h (by simpa using hq))
            · have hbl : b ≠ l := by rintro rfl; rw [hp1] at ho; cases ho
              refine ⟨?_, hot4 b hbl⟩
              rw [← ho4]
              simp only [(hmp b _ ho).1, if_true, ho]
              congr 1
              omega
            · have h2 := hnp b hlt ho
              exact ⟨o4n b h2, hot4 b (hnn b h2)⟩
    have hlast : (lentOut sh H1 ++ [HA.emp] ++ (A r :: Gr))[H.length + 1]? = some (A r) := by
      rw [List.getElem?_append_right (by simp [hlen2])]
      simp [hlen2]
    have hAr := hs2 (H.length + 1) _ hlast
    rw [← hA] at hAr
    obtain ⟨s, i⟩ := r
    cases i with
    | none =>
      obtain ⟨g, op, c1, c2, c3, c4⟩ := hAr
      obtain ⟨w4, e1, e2⟩ := key s g .ready none op (by simp) c1 c2 c3 c4
      exact ⟨none, w4, e1, hgo rfl g _ _ e2⟩
    | some i =>
      obtain ⟨g, op, c1, c2, c3, c4⟩ := hAr
      obtain ⟨w4, e1, e2⟩ := key s g .done _ op (by simp) c1 c2 c3 c4
      obtain ⟨c, hc, hk⟩ := hjump i rfl
      rw [hc] at e1
      refine ⟨some c, w4, e1, ?_⟩
      have := hk g _ _ e2
      rw [hE] at this
      exact this
end Go.Abs
namespace Go.Abs
section
variable {V : VF} {H : List HA} {P : Program} {d : Option Nat} {ty : TypeId} {pos : String} {af : Array Edge} {g : Option (Nat × Bool)}
end
end Go.Abs
namespace Go.Abs
/-- on behind a range over a function: off its end, or by a jump -/
def onJump {β : Type} (r : Option Nat) (go : Option β) (js : List (Option β)) : Option β :=
  match r with
  | none => go
  | some i => match js[i]? with
    | some x => x
    | none => none
theorem onJump_none {β : Type} {r : Option Nat} {go : Option β} {js : List (Option β)} {b : β} (hr : r = none) (h : onJump r go js = some b) : go = some b := by subst hr; exact h
theorem onJump_some {β : Type} {r : Option Nat} {go : Option β} {js : List (Option β)} {b : β} {i : Nat} (hr : r = some i) (h : onJump r go js = some b) : ∃ x, js[i]? = some x ∧ x = some b := by
  subst hr
  unfold onJump at h
  cases hx : js[i]? with
  | none => simp [hx] at h
  | some x => exact ⟨x, rfl, by simpa [hx] using h⟩
end Go.Abs
namespace Go.Abs
section
variable {E : Env} {k : List KI} {V : VF} {H : List HA} {ops : Array Oper} {op : Oper} {listed : Array Bool} {fuel : Nat} {Hs : List HA}
theorem any_ty {v : Value} {i : Nat} (hi : ops[i]? = some op) (hw : Wants E.n ops V op) (hd : inB E.n op.dst = true) (h : OpY E.P op V H v)
    (hk : Sub H Hs ∧ AnyL E ops (listed.setIfInBounds i true) fuel k (V.put op.dst v) H Hs) : AnyO E ops listed fuel k V H Hs i :=
  any_t hi hw hd h.t fun _ _ ⟨e1, e2⟩ => by rw [e1, e2]; exact hk
end
end Go.Abs
namespace Go.Abs
theorem sub_lo {α β : Type} (f : α → β) (l : List α) (a : Nat) : ((l.map f).take ((l.length : Int)).toNat).drop a = (l.drop a).map f := by
  rw [Int.toNat_natCast, List.take_of_length_le (by simp), List.map_drop]
theorem sub_hi {α β : Type} (f : α → β) (l : List α) (b : Nat) : ((l.map f).take b).drop ((0 : Int).toNat) = (l.take b).map f := by
  simp [List.map_take]
end Go.Abs
namespace Go.Abs
/-- Option.bind under a name of its own (the unifier opens Option.bind too early) -/
def obind {α β : Type} (x : Option α) (f : α → Option β) : Option β := x.bind f
theorem obind_some {α β : Type} {x : Option α} {f : α → Option β} {b : β} (h : obind x f = some b) : ∃ a, x = some a ∧ f a = some b := bind_some h
end Go.Abs
namespace Go.Abs
variable {E : Env} {k : List KI} {V : VF} {H : List HA} {P : Program}
section
variable {d : Option Nat} {ty : TypeId} {pos : String} {af : Array Edge} {g : Option (Nat × Bool)}
theorem y_mkIface {T : TypeId} {ds : TypeDesc} {x : Operand} {v : Value} (hu : ∀ w, (underlying T).run P w = .ok ds w) (hni : (match ds with | .interface _ => false | _ => true) = true) (hx : V.ev x = some v) :
    OpY P ⟨d, .makeInterface T x, ty, pos, af, g⟩ V H (.iface T v) := by
  intro ρ w o hf _ _
  cases ds <;> simp at hni <;> simp [execOp, Instr.makeInterface, hu, hf x _ hx]
end
section
variable {d : Option Nat} {ty : TypeId} {pos : String} {af : Array Edge} {g : Option (Nat × Bool)}
/-- the dynamic type is the one asked for -/
theorem y_assert {T U : TypeId} {ds : TypeDesc} {x : Operand} {v : Value} (hu : ∀ w, (underlying T).run P w = .ok ds w) (hni : (match ds with | .interface _ => false | _ => true) = true) (hx : V.ev x = some (.iface T v)) :
    OpY P ⟨d, .typeAssert x U T false, ty, pos, af, g⟩ V H v := by
  intro ρ w o hf _ _
  cases ds <;> simp at hni <;> simp [execOp, Instr.typeAssert, hu, hf x _ hx]
end
end Go.Abs
namespace Go.Abs
set_option linter.unusedSimpArgs false
variable {V : VF} {H : List HA}
section
variable {P : Program} {d : Option Nat} {ty : TypeId} {pos : String} {af : Array Edge} {g : Option (Nat × Bool)}
theorem y_sadd {T U : TypeId} {x y : Operand} {a b : List UInt8} (hx : V.ev x = some (.string (bs a))) (hy : V.ev y = some (.string (bs b))) (hl : a.length + b.length ≤ 4294967296) :
    OpY P ⟨d, .binOp .add T x y U, ty, pos, af, g⟩ V H (.string (bs (a ++ b))) := y_bin hx hy rfl (fun w => by
      have e : bs a ++ bs b = bs (a ++ b) := by
        apply ByteArray.ext
        simp [bs]
      have h2 : ¬ ((((bs a).size + (bs b).size : Nat) : Int) > IntKind.i64.max) := by
        rw [bs_size, bs_size]
        have : IntKind.i64.max = 9223372036854775807 := by decide
        omega
      simp only [binOp, Op.stringOp, if_neg h2, e]; rfl)
theorem allL_nil {α : Type} {p : α → Prop} : ∀ u ∈ ([] : List α), p u := fun u h => by cases h
theorem allL_cons {α : Type} {p : α → Prop} {a : α} {l : List α} (h : p a) (r : ∀ u ∈ l, p u) : ∀ u ∈ a :: l, p u := fun u hu => by
  rcases List.mem_cons.1 hu with rfl | hu
  · exact h
  · exact r u hu
theorem set_at {α : Type} {l : List α} {i : Nat} {x : α} (h : i < l.length) : (l.set i x)[i]? = some x := by simp [h]
theorem set_lt {α : Type} {l : List α} {i j : Nat} {x : α} (h : i < l.length) : i < (l.set j x).length := by simpa using h
end
theorem bi0m {V : VF} {α : Type} {F : α → List Value} {l : List α} : Bi V none (l.map F).length (l.length : Int) := .inl ⟨rfl, by rw [List.length_map]⟩
end Go.Abs
namespace Go.Abs
open Go.Sem
variable {P : Program} {V : VF} {H : List HA} {d : Option Nat} {ty : TypeId} {pos : String} {af : Array Edge} {g : Option (Nat × Bool)}
theorem y_indexAddr_boxI {T el : TypeId} {x y : Operand} {kd : IntKind} {i : Int} {b off len es : Nat} (hu : ∀ w, (underlying T).run P w = .ok (.array len el) w)
    (hz : ∀ w, (sizeOf el).run P w = .ok es w) (hx : V.ev x = some (boxP b off)) (hy : V.ev y = some (.int kd i)) (hn : 0 ≤ i ∧ i < (len : Int)) :
    OpY P ⟨d, .indexAddr T x y, ty, pos, af, g⟩ V H (boxP b (off + i.toNat * es)) :=
  y_indexAddr_box hu hz hx (by rw [hy, ← toNat_int hn.1]) (by omega)
section
variable {T : Type} {F : T → List Value} {es : Nat}
theorem drop_pre (pre l : List Value) (k : Nat) : (pre ++ l).drop (pre.length + k) = l.drop k := by
  rw [List.drop_append, List.drop_of_length_le (by omega), List.nil_append]; congr 1; omega
theorem flat_drop (hF : ∀ x, (F x).length = es) : ∀ (l : List T) (i : Nat), i ≤ l.length → (l.flatMap F).drop (i * es) = (l.drop i).flatMap F
  | l, 0, _ => by simp
  | [], i + 1, h => by simp at h
  | x :: r, i + 1, h => by
    rw [List.flatMap_cons, Nat.succ_mul, Nat.add_comm, ← hF x, List.drop_append, List.drop_of_length_le (by omega), List.nil_append, List.drop_succ_cons, ← flat_drop hF r i (by simpa using h), hF]
    congr 1; omega
theorem fmap_len (hF : ∀ x, (F x).length = es) : ∀ l : List T, (l.flatMap F).length = l.length * es
  | [] => by simp
  | x :: r => by rw [List.flatMap_cons, List.length_append, hF, fmap_len hF r, List.length_cons, Nat.succ_mul, Nat.add_comm]
theorem arr_take (hF : ∀ x, (F x).length = es) {l : List T} {i : Nat} {x : T} (hx : l[i]? = some x) (pre post : List Value) : ((pre ++ (l.flatMap F ++ post)).drop (pre.length + i * es)).take es = F x := by
  have hi := (List.getElem?_eq_some_iff.1 hx).1
  have h1 : i * es ≤ (l.flatMap F).length := by rw [fmap_len hF]; exact Nat.mul_le_mul_right _ (by omega)
  rw [drop_pre, List.drop_append, flat_drop hF l i (by omega), Nat.sub_eq_zero_of_le h1, List.drop_zero]
  have hd : l.drop i = x :: l.drop (i + 1) := by rw [List.drop_eq_getElem_cons hi]; congr 1; exact (List.getElem?_eq_some_iff.1 hx).2
  rw [hd, List.flatMap_cons, List.append_assoc, List.take_append_of_le_length (by rw [hF]; exact Nat.le_refl _), List.take_of_length_le (by rw [hF]; exact Nat.le_refl _)]
theorem arr_get (hF : ∀ x, (F x).length = es) {l : List T} {i j : Nat} {x : T} {r : Value} (hx : l[i]? = some x) (hr : (F x)[j]? = some r) (pre post : List Value) : (pre ++ (l.flatMap F ++ post))[pre.length + i * es + j]? = some r := by
  have hj := (List.getElem?_eq_some_iff.1 hr).1
  rw [hF] at hj
  have := arr_take hF hx pre post
  rw [← this, List.getElem?_take, if_pos hj, List.getElem?_drop] at hr
  exact hr
theorem wrL_mid (a b c ys : List Value) (h : ys.length = b.length) : wrL (a ++ (b ++ c)) a.length ys = a ++ (ys ++ c) := by
  apply List.ext_getElem?
  intro m
  rw [wrL_get _ _ _ _ (by simp; omega)]
  by_cases h1 : a.length ≤ m ∧ m < a.length + ys.length
  · rw [if_pos h1, List.getElem?_append_right h1.1, List.getElem?_append_left (by omega)]
  · rw [if_neg h1]
    by_cases h2 : m < a.length
    · rw [List.getElem?_append_left h2, List.getElem?_append_left h2]
    · rw [List.getElem?_append_right (by omega), List.getElem?_append_right (by omega), List.getElem?_append_right (by omega), List.getElem?_append_right (by omega), h]
theorem arr_wr (hF : ∀ x, (F x).length = es) {l : List T} {i : Nat} (hi : i < l.length) (v : T) (pre post : List Value) : wrL (pre ++ (l.flatMap F ++ post)) (pre.length + i * es) (F v) = pre ++ ((l.set i v).flatMap F ++ post) := by
  have hl : l = l.take i ++ (l[i] :: l.drop (i + 1)) := by rw [← List.drop_eq_getElem_cons hi, List.take_append_drop]
  have hs : l.set i v = l.take i ++ (v :: l.drop (i + 1)) := by rw [List.set_eq_take_append_cons_drop, if_pos hi]
  have e1 : pre ++ (l.flatMap F ++ post) = (pre ++ (l.take i).flatMap F) ++ (F l[i] ++ ((l.drop (i + 1)).flatMap F ++ post)) := by
    have : l.flatMap F = (l.take i).flatMap F ++ (F l[i] ++ (l.drop (i + 1)).flatMap F) := by
      have h2 : (l.take i ++ (l[i] :: l.drop (i + 1))).flatMap F = (l.take i).flatMap F ++ (F l[i] ++ (l.drop (i + 1)).flatMap F) := by rw [List.flatMap_append, List.flatMap_cons]
      rwa [← hl] at h2
    rw [this]; simp only [List.append_assoc]
  have e2 : pre ++ ((l.set i v).flatMap F ++ post) = (pre ++ (l.take i).flatMap F) ++ (F v ++ ((l.drop (i + 1)).flatMap F ++ post)) := by
    rw [hs]; simp [List.flatMap_append, List.append_assoc]
  have e3 : pre.length + i * es = (pre ++ (l.take i).flatMap F).length := by rw [List.length_append, fmap_len hF, List.length_take]; congr 2; omega
  rw [e1, e2, e3, wrL_mid _ _ _ _ (by rw [hF, hF])]
end
/-- an element of an array in a variable is stored -/
theorem t_store_arr {T : TypeId} {x y : Operand} {α : Type} {F : α → List Value} {es b i : Nat} {l : List α} {v : α} {r : Value} {vs : List Value} (m : Nat) (pre post : List Value) (hF : ∀ x, (F x).length = es) (hz : ∀ w, (sizeOf T).run P w = .ok es w)
    (hx : V.ev x = some (boxP b (pre.length + i * es))) (hy : V.ev y = some r) (hm : H[m]? = some (box b vs)) (hvs : vs = pre ++ (l.flatMap F ++ post)) (hi : i < l.length) (hr : r.cells.toList = F v) (h1 : ∀ u ∈ r.cells.toList, u.oneCell' = true) :
    OpT P ⟨d, .store T x y, ty, pos, af, g⟩ V H (fun v' H' => v' = undef ∧ H' = H.set m (box b (pre ++ ((l.set i v).flatMap F ++ post)))) := by
  have hn : r.cells.size = es := by have := congrArg List.length hr; rw [hF] at this; simpa using this
  have hl : pre.length + i * es + es ≤ vs.length := by
    rw [hvs, List.length_append, List.length_append, fmap_len hF]
    have : (i + 1) * es ≤ l.length * es := Nat.mul_le_mul_right _ hi
    rw [Nat.succ_mul] at this; omega
  have := t_store (d := d) (ty := ty) (pos := pos) (af := af) (g := g) m hz hx hy hm hn hl h1
  rwa [hr, hvs, arr_wr hF hi] at this
/-! arrays of numbers compared -/
theorem run_elems {w : World} {n : Nat} {el : TypeId} {kd ds : IntKind} {l1 l2 : List Int} (hu : ∀ w, (underlying el).run P w = .ok (.int ds) w) (ha : ∀ w, (isAgg el).run P w = .ok false w) (hl : l1.length = l2.length) : ∀ (m i : Nat), i + m = l1.length →
    (forIn (List.range' i m) ((none, ()) : Option Bool × Unit) (fun i _ => do
        let x ← (do Op.equalIn (n + 1) el (← part el (l1.map (Value.int kd)).toArray (i * 1)) (← part el (l2.map (Value.int kd)).toArray (i * 1)))
        if x = false then Pure.pure (ForInStep.done (some false, ())) else Pure.pure (ForInStep.yield (none, ())) : Nat → Option Bool × Unit → Sem (ForInStep (Option Bool × Unit)))).run P w = .ok (if l1.drop i = l2.drop i then none else some false, ()) w
  | 0, i, h => by
    have e1 : l1.drop i = [] := List.drop_of_length_le (by omega)
    have e2 : l2.drop i = [] := List.drop_of_length_le (by omega)
    rw [e1, e2]; simp
  | m + 1, i, h => by
    have h1 : i < l1.length := by omega
    have h2 : i < l2.length := by omega
    have ih := run_elems (w := w) (n := n) (kd := kd) hu ha hl m (i + 1) (by omega)
    have d1 : l1.drop i = l1[i] :: l1.drop (i + 1) := List.drop_eq_getElem_cons h1
    have d2 : l2.drop i = l2[i] :: l2.drop (i + 1) := List.drop_eq_getElem_cons h2
    rw [List.range'_succ, List.forIn_cons, Sem.run_bind]
    have e : (do Op.equalIn (n + 1) el (← part el (l1.map (Value.int kd)).toArray (i * 1)) (← part el (l2.map (Value.int kd)).toArray (i * 1)) : Sem Bool).run P w = .ok (decide (l1[i] = l2[i])) w := by
      simp [part, ha, h1, h2, Op.equalIn, hu, beq_dec]
    rw [Sem.run_bind, e, d1, d2]
    by_cases q : l1[i] = l2[i]
    · simp only [q, decide_true, Result.andThen_ok, if_neg (show ¬ (true = false) by decide), Sem.run_pure, List.cons.injEq, true_and]
      exact ih
    · have hne : ¬ (l1[i] :: l1.drop (i + 1) = l2[i] :: l2.drop (i + 1)) := fun h => q (List.cons.inj h).1
      rw [if_neg hne]
      simp [q]
theorem eqf_arr {n len : Nat} {xs ys : Array Value} {f : Field} {el : TypeId} {kd ds : IntKind} {l1 l2 : List Int} (hn : f.name ≠ "_") (hu : ∀ w, (underlying f.type).run P w = .ok (.array len el) w) (hA : ∀ w, (isAgg f.type).run P w = .ok true w) (hS : ∀ w, (sizeOf f.type).run P w = .ok len w)
    (hz : ∀ w, (sizeOf el).run P w = .ok 1 w) (hue : ∀ w, (underlying el).run P w = .ok (.int ds) w) (hae : ∀ w, (isAgg el).run P w = .ok false w) (h1 : l1.length = len) (h2 : l2.length = len)
    (hx : xs.extract f.offset (f.offset + len) = (l1.map (Value.int kd)).toArray) (hy : ys.extract f.offset (f.offset + len) = (l2.map (Value.int kd)).toArray) : EqF P (n + 1) xs ys f (decide (l1 = l2)) := by
  refine ⟨hn, fun w => ?_⟩
  have hp : ∀ (zs : Array Value) (w : World), (part f.type zs f.offset).run P w = .ok (.agg (zs.extract f.offset (f.offset + len))) w := fun zs w => by simp [part, hA, hS]
  have key := run_elems (P := P) (w := w) (n := n) (kd := kd) hue hae (h1.trans h2.symm) len 0 (by omega)
  simp only [Sem.run_bind, hp, Result.andThen_ok, hx, hy]
  rw [Op.equalIn]
  simp only [Sem.run_bind, hu, Result.andThen_ok, hz]
  rw [Std.Legacy.Range.forIn_eq_forIn_range']
  simp [Std.Legacy.Range.size] at key ⊢
  rw [key]
  by_cases q : l1 = l2 <;> simp [q]
/-- an element of an array value -/
theorem y_index_aggI {T el : TypeId} {x y : Operand} {kd : IntKind} {i : Int} {n es : Nat} {cs : List Value} {r : Value} (hu : ∀ w, (underlying T).run P w = .ok (.array n el) w) (hz : ∀ w, (sizeOf el).run P w = .ok es w) (ha : ∀ w, (isAgg el).run P w = .ok false w)
    (hx : V.ev x = some (.agg cs.toArray)) (hy : V.ev y = some (.int kd i)) (hi : 0 ≤ i ∧ i < (n : Int)) (hr : ([] ++ (cs ++ []))[([] : List Value).length + i.toNat * es]? = some r) :
    OpY P ⟨d, .index T x y, ty, pos, af, g⟩ V H r := by
  intro ρ w o hf _ _
  have h1 : cs[i.toNat * es]? = some r := by simpa using hr
  simp [execOp, Instr.index, asIntOf, hf x _ hx, hf y _ hy, hu, hz, part, ha, hi.1, hi.2, h1]
end Go.Abs
