/-
  Texts that stand side by side: AbsLift, AbsLift2, AbsPlain, AbsLift3, AbsCallX, AbsOps2, AbsNest, AbsCopy, AbsRange, AbsIface, AbsMore2, AbsArrV, AbsByte, AbsByte2, AbsPan, AbsRepl, AbsBound, AbsMapR, AbsTree, AbsGrow, AbsNMap.
-/
import Derived.Test.YtgjdaamkfpbgpaaM0
import Derived.OrdersHeld
import Derived.MapKept
import Derived.Laws.IdiomStrings
import Derived.Maps.RangeRun
namespace Go.Abs

def need {α : Type} (p : Prop) [Decidable p] (x : Option α) : Option α := if p then x else none
theorem need_some {α : Type} {p : Prop} [Decidable p] {x : Option α} {r : α} (h : need p x = some r) : p ∧ x = some r := by
  unfold need at h; split at h <;> simp_all
def idx {α β : Type} (l : List α) (i : Int) (k : α → Option β) : Option β :=
  if 0 ≤ i then (match l[i.toNat]? with | some x => k x | none => none) else none
theorem idx_some {α β : Type} {l : List α} {i : Int} {k : α → Option β} {r : β} (h : idx l i k = some r) :
    ∃ x, 0 ≤ i ∧ i.toNat < l.length ∧ l[i.toNat]? = some x ∧ k x = some r := by
  unfold idx at h
  split at h
  · split at h
    · rename_i h0 _ x hx
      exact ⟨x, h0, (List.getElem?_eq_some_iff.1 hx).1, hx, h⟩
    · simp at h
  · simp at h
theorem bind_some {α β : Type} {x : Option α} {k : α → Option β} {r : β} (h : x.bind k = some r) : ∃ a, x = some a ∧ k a = some r := by
  cases x with
  | none => simp at h
  | some a => exact ⟨a, rfl, h⟩
inductive Lp (S R : Type) where
  | go (s : S)
  | stop (r : R)
def bindJ {S R : Type} (x : Option (Lp S R)) (k : S → Option R) : Option R :=
  match x with
  | some (.go s) => k s
  | some (.stop r) => some r
  | none => none
def After {S R : Type} (o : Lp S R) (k : S → Option R) (r : R) : Prop :=
  match o with
  | .go s => k s = some r
  | .stop r' => r' = r
theorem bindJ_some {S R : Type} {x : Option (Lp S R)} {k : S → Option R} {r : R} (h : bindJ x k = some r) : ∃ o, x = some o ∧ After o k r := by
  cases x with
  | none => simp [bindJ] at h
  | some o => cases o with
    | go s => exact ⟨_, rfl, h⟩
    | stop r' => exact ⟨_, rfl, Option.some.inj h⟩
def iter {S R : Type} (step : S → Option (Lp S R)) : Nat → S → Option R
  | 0, _ => none
  | n + 1, s => match step s with
    | some (.go s') => iter step n s'
    | some (.stop r) => some r
    | none => none
theorem cond_t {α : Type} {b : Bool} {x y : Option α} {r : α} (h : cond b x y = some r) (hb : b = true) : x = some r := by subst hb; exact h
theorem cond_f {α : Type} {b : Bool} {x y : Option α} {r : α} (h : cond b x y = some r) (hb : b = false) : y = some r := by subst hb; exact h
theorem some_eq {α : Type} {a b : α} (h : some a = some b) : a = b := Option.some.inj h

variable {E : Env} {k : List KI} {V : VF} {H : List HA}

/-- a loop, as its lifted round says -/
theorem run_iter {S R G : Type} {step : S → Option (Lp S R)} {n : Nat} {s0 : S} {out : R} (h : iter step n s0 = some out) {c : Code} (g0 : G) (Vi : S → G → List (Nat × Value)) (Hi : S → G → List HA) (is : List Nat)
    (hl : ∀ x ∈ Vi s0 g0, V x.1 = some x.2) (hn : is.Nodup) (hG : Picks is H (Hi s0 g0))
    (round : ∀ s g o, step s = some o → ∀ L : Act → World → Prop, (∀ s' g', o = .go s' → ∀ a w, Rel E (VF.of (Vi s' g')) (Hi s' g') a w → L a w) → (∀ r, o = .stop r → r = out) →
      Run E c (.loop L :: k) (VF.of (Vi s g)) (Hi s g)) : Run E (.loop c) k V H := by
  refine run_loop ((Nat × S) × G) (fun x => Vi x.1.2 x.2) (fun x => Hi x.1.2 x.2) (fun x => iter step x.1.1 x.1.2 = some out) (fun x => x.1.1) is ((n, s0), g0) hl hn hG h ?_
  rintro ⟨⟨n, s⟩, g⟩ hi L hL
  cases n with
  | zero => simp [iter] at hi
  | succ n =>
    simp only [iter] at hi
    cases hs : step s with
    | none => rw [hs] at hi; simp at hi
    | some o =>
      rw [hs] at hi
      refine round s g o hs L (fun s' g' ho a w hr => hL ((n, s'), g') ?_ (Nat.lt_succ_self n) a w hr) (fun r ho => ?_)
      · subst ho; exact hi
      · subst ho; simpa using hi
theorem goes_iter {L : Act → World → Prop} {S R G : Type} {o : Lp S R} {Vi : S → G → List (Nat × Value)} {Hi : S → G → List HA}
    (hL : ∀ s' g', o = .go s' → ∀ a w, Rel E (VF.of (Vi s' g')) (Hi s' g') a w → L a w) (s' : S) (g' : G) (is : List Nat) (ho : o = .go s')
    (hl : ∀ x ∈ Vi s' g', V x.1 = some x.2) (hn : is.Nodup) (hG : Picks is H (Hi s' g')) : Goes E (.loop L :: k) V H :=
  fun a w r => hL s' g' ho a w ((r.vle (VF.le_of _ hl)).pick hn hG)

/-! the ways through a part of a region meet again -/
theorem uponIn_then {F : Fence} {n : Nat} {P : Program} {o : Oper} {a : Act} {L next next' : Act → World → Prop} {Q : Exit → Act → World → Prop} (hn : ∀ a w, next a w → next' a w) {r : Result Next}
    (h : o.uponIn F n P a next (Exit.then L Q) r) : o.uponIn F n P a next' Q r := by
  cases r with
  | ok x w' =>
    cases x <;> simp only [Oper.uponIn] at h ⊢ <;>
      first
        | exact hn _ _ h
        | exact ⟨h.1, CallsIn.mono h.2 (fun e w'' he => by cases e <;> first | exact hn _ _ he | exact he)⟩
        | exact ⟨h.1, RowsIn.mono h.2 (fun _ _ he => hn _ _ he)⟩
        | exact ⟨h.1, RoundIn.mono h.2 (fun e w'' he => by cases e <;> first | exact hn _ _ he | exact he)⟩
  | halt x w' => cases x <;> simp only [Oper.uponIn] at h ⊢ <;> exact h
theorem wpListIn_append {P : Program} {ops : Array Oper} {Q : Exit → Act → World → Prop} {r : Option Nat} {l2 : List Oper} : ∀ (l1 : List Oper) {a : Act} {w : World},
    wpListIn (FR r) 0 P ops (Exit.then (fun a w => wpListIn (FR r) 0 P ops Q l2 a w) Q) l1 a w → wpListIn (FR r) 0 P ops Q (l1 ++ l2) a w
  | [], a, w, h => h
  | o :: l1, a, w, h => by
    simp only [List.cons_append]
    unfold wpListIn at h ⊢
    split
    · rename_i hw
      rw [if_pos hw] at h
      exact ⟨h.1, uponIn_then (fun a w h => wpListIn_append l1 h) h.2⟩
    · rename_i hw
      rw [if_neg hw] at h
      exact ⟨h.1, wpListIn_append l1 h.2⟩
theorem ops_cut {ops : Array Oper} {l : List Oper} (m : Nat) (S : Type) (Vi : S → List (Nat × Value)) (Hi : S → List HA) (inv : S → Prop)
    (h1 : ∀ L : Act → World → Prop, (∀ s, inv s → ∀ a w, Rel E (VF.of (Vi s)) (Hi s) a w → L a w) → Ops E ops (l.take m) (.loop L :: k) V H)
    (h2 : ∀ s, inv s → Ops E ops (l.drop m) k (VF.of (Vi s)) (Hi s)) : Ops E ops l k V H := by
  intro a w r
  have h := h1 (fun a w => wpListIn (FR E.r) 0 E.P ops (Qof E k) (l.drop m) a w) (fun s hi a w hr => h2 s hi a w hr) a w r
  have := wpListIn_append (l.take m) h
  rwa [List.take_append_drop] at this
theorem wpStill_append {P : Program} {ops : Array Oper} {w : World} {Q : Act → Prop} {l2 : List Oper} : ∀ (l1 : List Oper) {a : Act},
    wpStill P ops w (wpStill P ops w Q l2) l1 a → wpStill P ops w Q (l1 ++ l2) a
  | [], _, h => h
  | o :: l1, a, h => by
    simp only [List.cons_append]
    unfold wpStill at h ⊢
    have e : wpStill P ops w (wpStill P ops w Q l2) l1 = wpStill P ops w Q (l1 ++ l2) := by
      clear h
      induction l1 with
      | nil => rfl
      | cons x l1 ih => funext a; simp only [List.cons_append, wpStill, ih]
    rw [e] at h
    exact h
theorem still_cut {ops : Array Oper} {l : List Oper} (m : Nat) (S : Type) (Vi : S → List (Nat × Value)) (Hi : S → List HA) (inv : S → Prop)
    (h1 : ∀ L : Act → World → Prop, (∀ s, inv s → ∀ a w, Rel E (VF.of (Vi s)) (Hi s) a w → L a w) → StillL E ops (l.take m) (.loop L :: k) V H)
    (h2 : ∀ s, inv s → StillL E ops (l.drop m) k (VF.of (Vi s)) (Hi s)) : StillL E ops l k V H := by
  intro a w r
  have h := h1 (fun a w => wpStill E.P ops w (fun a' => Qof E k .normal a' w) (l.drop m) a) (fun s hi a w hr => h2 s hi a w hr) a w r
  have := wpStill_append (l.take m) h
  rwa [List.take_append_drop] at this

/-! indexes as integers -/
section
variable {P : Program} {d : Option Nat} {ty : TypeId} {pos : String} {af : Array Edge} {g : Option (Nat × Bool)}
theorem toNat_int {i : Int} (h : 0 ≤ i) : i = ((i.toNat : Nat) : Int) := by omega
theorem y_indexAddrI {T el : TypeId} {x y : Operand} {v : Value} {kd : IntKind} {i : Int} {es : Nat} {cells : List (List Value)} {h : HA} (m : Nat) (hu : ∀ w, (underlying T).run P w = .ok (.slice el) w)
    (hz : ∀ w, (sizeOf el).run P w = .ok es w) (hx : V.ev x = some v) (hy : V.ev y = some (.int kd i)) (hm : H[m]? = some h) (hr : Reads h v es cells) (h0 : 0 ≤ i) (hn : i.toNat < cells.length) :
    OpY P ⟨d, .indexAddr T x y, ty, pos, af, g⟩ V H (elemP v (i.toNat * es)) := by
  refine y_indexAddr (kd := kd) (n := i.toNat) m hu hz hx ?_ hm hr hn
  rw [hy, ← toNat_int h0]
theorem map_get {α : Type} {F : α → List Value} {l : List α} {i : Nat} {x : α} (h : l[i]? = some x) : (l.map F)[i]? = some (F x) := by rw [List.getElem?_map, h]; rfl
theorem map_lt {α : Type} {F : α → List Value} {l : List α} {i : Nat} (h : i < l.length) : i < (l.map F).length := by simpa using h
theorem map_ok {α : Type} {F : α → List Value} {n : Nat} (hF : ∀ x, (F x).length = n ∧ ∀ u ∈ F x, u.oneCell' = true) (l : List α) : ∀ c ∈ l.map F, c.length = n ∧ ∀ u ∈ c, u.oneCell' = true := by
  intro c hc
  obtain ⟨x, _, rfl⟩ := List.mem_map.1 hc
  exact hF x
theorem map_room {α : Type} {F : α → List Value} {l m : List α} {b : Nat} (h : l.length + m.length ≤ 4294967296) (hb : b ≤ 16384) : (2 * ((l.map F).length + (m.map F).length) + 1000) * b ≤ 2 ^ 48 := by
  have h1 : (2 * ((l.map F).length + (m.map F).length) + 1000) ≤ 8589935592 := by simp only [List.length_map]; omega
  calc (2 * ((l.map F).length + (m.map F).length) + 1000) * b ≤ 8589935592 * 16384 := Nat.mul_le_mul h1 hb
    _ ≤ 2 ^ 48 := by decide
theorem map_fit {α : Type} {F : α → List Value} {l m : List α} (h : l.length + m.length ≤ 4294967296) : (l.map F).length + (m.map F).length ≤ maxLen := by
  simp only [List.length_map]; unfold maxLen; omega
theorem v_len {α : Type} (F : α → List Value) (l : List α) : Value.int .i64 ((l.map F).length : Nat) = .int .i64 (l.length : Int) := by simp

/-! structs built, structs compared -/
def FS (P : Program) (fl : List Field) (pl : List (Nat × Nat)) : Prop :=
  ∀ w, (fl.mapM (fun (f : Field) => (do pure (f.offset, ← sizeOf f.type) : Sem (Nat × Nat)))).run P w = .ok pl w
theorem fs_nil : FS P [] [] := fun w => by simp
theorem fs_cons {f : Field} {n : Nat} {r : List Field} {pl : List (Nat × Nat)} (hz : ∀ w, (sizeOf f.type).run P w = .ok n w) (hr : FS P r pl) : FS P (f :: r) ((f.offset, n) :: pl) := by
  intro w
  have := hr w
  simp only [bind_pure_comp] at this ⊢
  simp [List.mapM_cons, hz, this]
def fillC (place : Nat → Option (Nat × Nat)) (cells : Array Value) : List (Nat × List Value) → Option (Array Value)
  | [] => some cells
  | (i, c) :: rest =>
    match place i with
    | none => none
    | some (off, size) =>
      if c.length ≠ size || off + c.length > cells.size then none
      else fillC place (writeAt cells off c) rest
theorem fill_fillC (place : Nat → Option (Nat × Nat)) : ∀ (vs : List (Nat × Value)) (cells : Array Value), Instr.fill place cells vs = fillC place cells (vs.map fun p => (p.1, p.2.cells.toList))
  | [], cells => rfl
  | (i, v) :: rest, cells => by
    simp only [Instr.fill, List.map_cons, fillC]
    cases place i with
    | none => rfl
    | some p =>
      obtain ⟨off, size⟩ := p
      simp only [Array.length_toList]
      split
      · rfl
      · have e : v.cells.zipIdx.foldl (fun cs (x : Value × Nat) => cs.setIfInBounds (off + x.2) x.1) cells = writeAt cells off v.cells.toList := by
          rw [← Array.foldl_toList, Array.toList_zipIdx]
          exact foldl_write off v.cells.toList 0 cells
        rw [e]
        exact fill_fillC place rest _
theorem y_build_struct {T : TypeId} {parts : Array (Nat × Operand)} {z : Value} {fl : List Field} {pl : List (Nat × Nat)} {cells : Array Value} (vs : List (Nat × Value)) (cs : List (Nat × List Value)) (h0 : ∀ w, (zeroValue T).run P w = .ok z w)
    (hu : ∀ w, (underlying T).run P w = .ok (.struct fl.toArray) w) (hF : FS P fl pl) (hp : parts.toList.map (fun p => (p.1, V.ev p.2)) = vs.map (fun p => (p.1, some p.2)))
    (hcs : vs.map (fun p => (p.1, p.2.cells.toList)) = cs) (hc : fillC (fun i => pl.toArray[i]?) z.cells cs = some cells) : OpY P ⟨d, .build T parts, ty, pos, af, g⟩ V H (.agg cells) := by
  intro ρ w o hf _ hs
  have hpv := parts_eq (V := V) (ρ := ρ) (fun x v h => hf x v h) _ _ hp
  have hm := hF w
  rw [← hcs, ← fill_fillC] at hc
  simp only [bind_pure_comp] at hm
  simp only [List.getElem?_toArray] at hc
  simp [execOp, Instr.build, hu, h0, hpv, hm, hc]

def EqF (P : Program) (n : Nat) (xs ys : Array Value) (f : Field) (b : Bool) : Prop :=
  f.name ≠ "_" ∧ ∀ w, (do Op.equalIn (n + 1) f.type (← part f.type xs f.offset) (← part f.type ys f.offset)).run P w = .ok b w
theorem eqf_int {n : Nat} {xs ys : Array Value} {f : Field} {kd : IntKind} {a b : Int} {ds : IntKind} (hn : f.name ≠ "_") (hu : ∀ w, (underlying f.type).run P w = .ok (.int ds) w) (ha : ∀ w, (isAgg f.type).run P w = .ok false w)
    (hx : xs[f.offset]? = some (.int kd a)) (hy : ys[f.offset]? = some (.int kd b)) : EqF P n xs ys f (decide (a = b)) :=
  ⟨hn, fun w => by simp [part, ha, hx, hy, Op.equalIn, hu, beq_dec]⟩
theorem eqf_str {n : Nat} {xs ys : Array Value} {f : Field} {a b : List UInt8} (hn : f.name ≠ "_") (hu : ∀ w, (underlying f.type).run P w = .ok .string w) (ha : ∀ w, (isAgg f.type).run P w = .ok false w)
    (hx : xs[f.offset]? = some (.string (bs a))) (hy : ys[f.offset]? = some (.string (bs b))) : EqF P n xs ys f (decide (a = b)) :=
  ⟨hn, fun w => by
    have e : (bs a == bs b) = decide (a = b) := by
      show (a.toArray == b.toArray) = decide (a = b)
      simp [beq_dec]
    simp [part, ha, hx, hy, Op.equalIn, hu, e]⟩
inductive EqFs (P : Program) (n : Nat) (xs ys : Array Value) : List Field → List Bool → Prop where
  | nil : EqFs P n xs ys [] []
  | cons {f : Field} {b : Bool} {fl : List Field} {bl : List Bool} : EqF P n xs ys f b → EqFs P n xs ys fl bl → EqFs P n xs ys (f :: fl) (b :: bl)
def allB : List Bool → Bool
  | [] => true
  | [b] => b
  | b :: c :: r => b && allB (c :: r)
theorem allB_cons (b : Bool) (r : List Bool) : allB (b :: r) = (b && allB r) := by cases r <;> simp [allB]
theorem run_fields {w : World} {n : Nat} {xs ys : Array Value} : ∀ {fl : List Field} {bl : List Bool}, EqFs P n xs ys fl bl →
    (forIn fl ((none, ()) : Option Bool × Unit) (fun f _ =>
      if f.name ≠ "_" then do
        let x ← (do Op.equalIn (n + 1) f.type (← part f.type xs f.offset) (← part f.type ys f.offset))
        if x = false then pure (ForInStep.done (some false, ())) else pure (ForInStep.yield (none, ()))
      else pure (ForInStep.yield (none, ())) : Field → Option Bool × Unit → Sem (ForInStep (Option Bool × Unit)))).run P w = .ok (if allB bl then none else some false, ()) w
  | _, _, .nil => by simp [allB]
  | f :: fl, b :: bl, .cons h hr => by
    have ih := run_fields (w := w) hr
    rw [List.forIn_cons, Sem.run_bind, if_pos h.1, Sem.run_bind, h.2 w, allB_cons]
    cases b with
    | false => simp
    | true => simp only [Result.andThen_ok, if_neg (show ¬ (true = false) by decide), Sem.run_pure, Bool.true_and]; exact ih
theorem run_equalIn_struct {w : World} {T : TypeId} {n : Nat} {fl : List Field} {xs ys : Array Value} {bl : List Bool} (hst : P.stoodInHeld T = false) (hu : ∀ w, (underlying T).run P w = .ok (.struct fl.toArray) w)
    (h : EqFs P n xs ys fl bl) : (Op.equalIn (n + 2) T (.agg xs) (.agg ys)).run P w = .ok (allB bl) w := by
  have key := run_fields (w := w) h
  rw [Op.equalIn]
  simp only [Sem.run_bind, hu, Result.andThen_ok]
  simp [hst]
  simp at key
  rw [key]
  cases hb : allB bl <;> simp
theorem y_neS {T U : TypeId} {x y : Operand} {fl : List Field} {xs ys : Array Value} {bl : List Bool} (hg : P.eqGuardType P.depth T = false) (hst : P.stoodInHeld T = false) (hu : ∀ w, (underlying T).run P w = .ok (.struct fl.toArray) w)
    (hx : V.ev x = some (.agg xs)) (hy : V.ev y = some (.agg ys)) (h : EqFs P 9998 xs ys fl bl) : OpY P ⟨d, .binOp .neq T x y U, ty, pos, af, g⟩ V H (.bool (!allB bl)) := by
  intro ρ w o hf _ _
  have e : (Op.equal T (.agg xs) (.agg ys)).run P w = .ok (allB bl) w := run_equalIn_struct hst hu h
  simp [execOp, hf x _ hx, hf y _ hy, eqGuard, hg, binOp, e]
end
end Go.Abs
namespace Go.Abs
theorem after_go {S R : Type} {s : S} {k : S → Option R} {r : R} (h : After (.go s) k r) : k s = some r := h
theorem after_stop {S R : Type} {e : R} {k : S → Option R} {r : R} (h : After (.stop e) k r) : e = r := h
def eInt (k : IntKind) (n : Int) : List Value := [.int k n]
theorem eInt_ok (k : IntKind) (n : Int) : (eInt k n).length = 1 ∧ ∀ u ∈ eInt k n, u.oneCell' = true := ⟨rfl, fun u h => by simp [eInt] at h; subst h; rfl⟩
def eB8 (b : UInt8) : List Value := [.int .u8 b.toNat]
theorem eB8_ok (n : UInt8) : (eB8 n).length = 1 ∧ ∀ u ∈ eB8 n, u.oneCell' = true := ⟨rfl, fun u h => by simp [eB8] at h; subst h; rfl⟩
def eStr (b : List UInt8) : List Value := [.string (bs b)]
theorem eStr_ok (b : List UInt8) : (eStr b).length = 1 ∧ ∀ u ∈ eStr b, u.oneCell' = true := ⟨rfl, fun u h => by simp [eStr] at h; subst h; rfl⟩
theorem map_set_at {α : Type} {F : α → List Value} {l : List α} {i : Nat} {c : List Value} {y : α} (h : c = F y) : (l.map F).set i c = (l.set i y).map F := by rw [h, List.map_set]

variable {E : Env} {k : List KI} {V : VF} {H : List HA}
section
variable {P : Program} {d : Option Nat} {ty : TypeId} {pos : String} {af : Array Edge} {g : Option (Nat × Bool)}
theorem wrL_length (c : List Value) (j : Nat) (ys : List Value) : (wrL c j ys).length = c.length := by simp [wrL, size_writeAt]
theorem wrL_get (c : List Value) (j : Nat) (ys : List Value) (m : Nat) (h : j + ys.length ≤ c.length) : (wrL c j ys)[m]? = if j ≤ m ∧ m < j + ys.length then ys[m - j]? else c[m]? := by
  have := get_writeAt ys c.toArray j m (by simpa using h)
  simpa [wrL] using this
/-- a store into an element of a row of the call's own -/
theorem t_store_row {T : TypeId} {x y : Operand} {v r : Value} {es i j n : Nat} {c : List Value} {cells : List (List Value)} (m : Nat) (hz : ∀ w, (sizeOf T).run P w = .ok n w) (hx : V.ev x = some (elemP v (i * es + j))) (hy : V.ev y = some r)
    (hm : H[m]? = some (row v es cells)) (hn : r.cells.size = n) (hc : cells[i]? = some c) (hl : Nat.ble (j + n) es = true) (h1 : ∀ u ∈ r.cells.toList, u.oneCell' = true) :
    OpT P ⟨d, .store T x y, ty, pos, af, g⟩ V H (fun v' H' => v' = undef ∧ H' = H.set m (row v es (cells.set i (wrL c j r.cells.toList)))) := by
  intro ρ w o hf hbd hs
  have hle : j + n ≤ es := Nat.le_of_ble_eq_true hl
  rcases hs m _ hm with ⟨_, h0⟩ | ⟨b, off, cap, arr, T', fz, e1, e2, e3, e4, e5, e6, e7, e8, e9, e10⟩
  · rw [h0] at hc; simp at hc
  have hlt : i < cells.length := (List.getElem?_eq_some_iff.1 hc).1
  have hce := e9 c (List.mem_of_getElem? hc)
  have hroom : off + (i * es + j) + r.cells.toList.length ≤ arr.size := by
    rw [e6, Array.length_toList, hn]
    have : (i + 1) * es ≤ cap * es := Nat.mul_le_mul_right _ (by omega)
    rw [Nat.succ_mul] at this; omega
  obtain ⟨w', h2, h3⟩ := run_storeCells (P := P) r.cells.toList 0 arr w e4 e5 (off := off + (i * es + j)) (by omega) h1
  have hrun : (execOp ρ ⟨d, .store T x y, ty, pos, af, g⟩).run P w = .ok .skip w' := by
    subst e1
    simp [execOp, hf x _ hx, hf y _ hy, Instr.storeAt, Instr.sureAddr, elemP, Value.sbase, storeVar, hz, hn, h2]
  unfold Does
  rw [hrun]
  refine ⟨_, o, ⟨rfl, rfl⟩, fun b' hb' => hbd b' (by rw [h3.size] at hb'; exact hb'), ⟨h3.os, h3.tape, h3.output, by rw [h3.size]; exact Nat.le_refl _, fun b' hlt hb' => ⟨hb', h3.other b' ?_⟩, fun b' hlt hb' => ⟨hb', h3.other b' ?_⟩⟩, ?_⟩
  · rintro rfl; rw [e2] at hb'; cases hb'
  · rintro rfl; rw [e2] at hb'; cases hb'
  · refine sats_upd (by rw [h3.size]; exact Nat.le_refl _) (fun b' hlt hb' => ⟨rfl, h3.other b' ?_⟩) hs (.inr ⟨b, off, cap, _, T', fz, by rw [List.length_set]; exact e1, e2, by rw [h3.size]; exact e3, h3.here, by rw [size_writeAt]; exact e5, by rw [size_writeAt]; exact e6,
      by rw [List.length_set]; exact e7, e8, ?_, ?_⟩)
    · rintro rfl; exact hb' e2
    · intro c' hc'
      rcases List.mem_or_eq_of_mem_set hc' with h | rfl
      · exact e9 c' h
      · rw [wrL_length]; exact hce
    · intro i' c' hi' j' x' hj'
      rw [Nat.add_zero, get_writeAt _ _ _ _ hroom]
      rw [Array.length_toList, hn]
      by_cases hii : i = i'
      · subst hii
        rw [List.getElem?_set_self hlt] at hi'
        simp at hi'
        subst hi'
        rw [wrL_get _ _ _ _ (by rw [Array.length_toList, hn, hce]; exact hle), Array.length_toList, hn] at hj'
        by_cases hjj : j ≤ j' ∧ j' < j + n
        · rw [if_pos hjj] at hj'
          rw [if_pos (by omega)]
          rw [← hj']; congr 1; omega
        · rw [if_neg hjj] at hj'
          rw [if_neg (by omega)]
          exact e10 i c hc j' x' hj'
      · rw [List.getElem?_set_ne hii] at hi'
        have hjl : j' < es := by
          have h1 := (List.getElem?_eq_some_iff.1 hj').1
          rw [e9 c' (List.mem_of_getElem? hi')] at h1; exact h1
        have : ¬ (off + (i * es + j) ≤ off + i' * es + j' ∧ off + i' * es + j' < off + (i * es + j) + n) := by
          rintro ⟨ha, hb⟩
          rcases Nat.lt_or_ge i i' with h | h
          · have : (i + 1) * es ≤ i' * es := Nat.mul_le_mul_right _ h
            rw [Nat.succ_mul] at this; omega
          · have : (i' + 1) * es ≤ i * es := Nat.mul_le_mul_right _ (by omega)
            rw [Nat.succ_mul] at this; omega
        rw [if_neg this]
        exact e10 i' c' hi' j' x' hj'
end

/-! a region whose order is open -/
def SH (E : Env) (Hs : List HA) (w : World) : Prop := ∃ o, Bnd w o ∧ Tr E.w0 E.o0 w o ∧ Sats w o Hs
def Sub (H Hs : List HA) : Prop := ∀ (j : Nat) (h : HA), Hs[j]? = some h → (∀ w o k, h.p w o k) ∨ H[j]? = some h
theorem sub_nil {H : List HA} : Sub H [] := fun j h hj => by simp at hj
theorem sub_same {H Hs : List HA} {h : HA} (r : Sub H Hs) : Sub (h :: H) (h :: Hs) := fun j x hj => by
  cases j with
  | zero => exact .inr hj
  | succ j => exact r j x hj
theorem sub_emp {H Hs : List HA} {h : HA} (r : Sub H Hs) : Sub (h :: H) (HA.emp :: Hs) := fun j x hj => by
  cases j with
  | zero => simp at hj; subst hj; exact .inl fun _ _ _ => trivial
  | succ j => exact r j x hj
theorem Sub.sats {Hs : List HA} {w : World} {o : Own} (h : Sub H Hs) (hs : Sats w o H) : Sats w o Hs := fun j x hj => (h j x hj).elim (fun h => h w o j) (fun h => hs j x h)
def AnyL (E : Env) (ops : Array Oper) (listed : Array Bool) (fuel : Nat) (k : List KI) (V : VF) (H Hs : List HA) : Prop :=
  ∀ a w, Rel E V H a w → wpAnyI E.r E.P ops (Qof E k) (SH E Hs) fuel listed a w
def AnyO (E : Env) (ops : Array Oper) (listed : Array Bool) (fuel : Nat) (k : List KI) (V : VF) (H Hs : List HA) (i : Nat) : Prop :=
  ∀ a w, Rel E V H a w → wpOpI E.r E.P ops (Qof E k) i (fun a' w' => SH E Hs w' ∧ wpAnyI E.r E.P ops (Qof E k) (SH E Hs) fuel (listed.setIfInBounds i true) a' w') a w

theorem Qof_panic (hbl : E.blind = true) {d : Option Nat} {v : Value} : ∀ (k : List KI) (c : List PanicEntry) (a : Act) (w : World), Qof E k (.panic c) (a.put d v) w → Qof E k (.panic c) a w
  | [], c, a, w, h => E.np hbl c a d v w h
  | .code _ :: k, c, a, w, h => Qof_panic hbl k c a w h
  | .blk _ :: k, c, a, w, h => Qof_panic hbl k c a w h
  | .scope :: k, c, a, w, h => Qof_panic hbl k c a w h
  | .loop _ :: k, c, a, w, h => Qof_panic hbl k c a w h

theorem run_drawany {id : Nat} {l : List Oper} (Hs : List HA) (hm : E.P.follows .mixedOrders = true) (h : AnyL E l.toArray (Array.replicate l.length false) l.length k V H Hs) (hnd : noDef E.r l.toArray = true := by exact rfl) : Run E (.region id l.toArray true) k V H := by
  intro a w r
  refine wpAnyI_in (S := SH E Hs) hnd hm ?_
  have := h a _ r.drew
  simpa using this

variable {ops : Array Oper} {op : Oper} {listed : Array Bool} {fuel : Nat} {Hs : List HA}
theorem any_y {v : Value} (i : Nat) (hi : ops[i]? = some op) (hs : Region.noSelect ops = true) (hf : Region.free .any ops listed i = true) (hr : (Region.ready .any ops listed).contains i = true) (hsub : Sub H Hs)
    (hw : Wants E.n ops V op) (hd : inB E.n op.dst = true) (h : OpY E.P op V Hs v) (hk : AnyL E ops (listed.setIfInBounds i true) fuel k (V.put op.dst v) H Hs) (hbl : E.blind = true := by exact rfl) : AnyL E ops listed (fuel + 1) k V H Hs := by
  intro a w r
  have hS : SH E Hs w := by
    obtain ⟨_, _, _, o, hb, ht, hst⟩ := r
    exact ⟨o, hb, ht.tr, hsub.sats hst⟩
  refine wpAnyI_take hi hs hf hr (fun c a w hq => Qof_panic hbl k c a w hq) (.inl ⟨hw.wanted r, fun w' ⟨o, hb, ht, hst⟩ => h a.eval w' o r.fits hb hst⟩) hS ?_
  obtain ⟨h1, h2, h3, o, hb, ht, hst⟩ := r
  exact hk _ w (Rel.put h1 h2 h3 hd hb ht (Tr.refl w o) hst)
theorem any_no (i : Nat) (hi : ops[i]? = some op) (hs : Region.noSelect ops = true) (hf : Region.free .any ops listed i = true) (hr : (Region.ready .any ops listed).contains i = true) (hsub : Sub H Hs)
    (j : Nat) (b : Bool) (t : Nat) (hg : op.guard = some (j, b)) (hj : ((ops[j]?).bind (·.dst)) = some t) (hv : V t = some (.bool (!b))) (ht : Nat.blt t E.n = true) (hd : inB E.n op.dst = true)
    (hk : AnyL E ops (listed.setIfInBounds i true) fuel k (V.put op.dst undef) H Hs) (hbl : E.blind = true := by exact rfl) : AnyL E ops listed (fuel + 1) k V H Hs := by
  intro a w r
  have hS : SH E Hs w := by
    obtain ⟨_, _, _, o, hb, ht, hst⟩ := r
    exact ⟨o, hb, ht.tr, hsub.sats hst⟩
  have h2 := getD_some r.1 ht (r.2.2.1 t _ hv)
  refine wpAnyI_take hi hs hf hr (fun c a w hq => Qof_panic hbl k c a w hq) (.inr ⟨by cases b <;> simp [Region.wanted, hg, yielded, hj, h2], rfl⟩) hS ?_
  obtain ⟨h1, h2, h3, o, hb, ht, hst⟩ := r
  exact hk _ w (Rel.put h1 h2 h3 hd hb ht (Tr.refl w o) hst)
theorem any_all (rs : List Nat) (hr : Region.ready .any ops listed = rs) (hne : rs.isEmpty = false) (h : ∀ i ∈ rs, AnyO E ops listed fuel k V H Hs i) : AnyL E ops listed (fuel + 1) k V H Hs := by
  intro a w r
  exact wpAnyI_all hr (by rintro rfl; simp at hne) fun i hi => h i hi a w r
theorem anyo_nil : ∀ i ∈ ([] : List Nat), AnyO E ops listed fuel k V H Hs i := fun i hi => by simp at hi
theorem anyo_cons {i : Nat} {rs : List Nat} (h : AnyO E ops listed fuel k V H Hs i) (hr : ∀ j ∈ rs, AnyO E ops listed fuel k V H Hs j) : ∀ j ∈ i :: rs, AnyO E ops listed fuel k V H Hs j := by
  intro j hj
  rcases List.mem_cons.1 hj with rfl | hj
  · exact h
  · exact hr j hj
theorem any_t {post : Post} {i : Nat} (hi : ops[i]? = some op) (hw : Wants E.n ops V op) (hd : inB E.n op.dst = true) (h : OpT E.P op V H post)
    (hk : ∀ v H', post v H' → Sub H' Hs ∧ AnyL E ops (listed.setIfInBounds i true) fuel k (V.put op.dst v) H' Hs) : AnyO E ops listed fuel k V H Hs i := by
  intro a w r
  unfold wpOpI
  simp only [hi]
  rw [if_pos (hw.wanted r)]
  have hf := r.fits
  obtain ⟨h1, h2, h3, o, hb, ht, hs⟩ := r
  have := h a.eval w o hf hb hs
  unfold Does at this
  generalize (execOp a.eval op).run E.P w = x at *
  cases x with
  | halt x w' => simp at this
  | ok nx w' =>
    cases nx <;> simp only [Oper.uponIn] at this ⊢
    case value v =>
      obtain ⟨H', o', hp, hb', ht', hs'⟩ := this
      exact ⟨⟨o', hb', ht.tr.trans ht', (hk v H' hp).1.sats hs'⟩, (hk v H' hp).2 _ _ (Rel.put h1 h2 h3 hd hb' ht ht' hs')⟩
    case skip =>
      obtain ⟨H', o', hp, hb', ht', hs'⟩ := this
      exact ⟨⟨o', hb', ht.tr.trans ht', (hk _ H' hp).1.sats hs'⟩, (hk _ H' hp).2 _ _ (Rel.put h1 h2 h3 hd hb' ht ht' hs')⟩
    case enter f args =>
      refine ⟨(fun h => nomatch h), CallsIn.mono (F := FR E.r) (callsIn_wide.2 this) ?_⟩
      rintro e w'' ⟨v, rfl, H', o', hp, hb', ht', hs'⟩
      exact ⟨⟨o', hb', ht.tr.trans ht', (hk v H' hp).1.sats hs'⟩, (hk v H' hp).2 _ _ (Rel.put h1 h2 h3 hd hb' ht ht' hs')⟩
theorem any_nil (hr : Region.ready .any ops listed = []) (h : Goes E k V H) : AnyL E ops listed fuel k V H Hs := fun a w r => wpAnyI_done hr (h a w r) fuel
theorem any_turn {H' : List HA} (h : Turn H H') (hk : AnyL E ops listed fuel k V H' Hs) : AnyL E ops listed fuel k V H Hs := fun a w r => hk a w (r.turn h)
theorem any_split (t : Nat) (b : Bool) (hv : V t = some (.bool b)) (ht : b = true → AnyL E ops listed fuel k (V.set t (.bool true)) H Hs)
    (hf : b = false → AnyL E ops listed fuel k (V.set t (.bool false)) H Hs) : AnyL E ops listed fuel k V H Hs := by
  have same : ∀ c, b = c → ∀ a, Agree V a → Agree (V.set t (.bool c)) a := by
    intro c hc a ha u x hx
    rcases VF.set_eq hx with ⟨rfl, rfl⟩ | ⟨_, hx⟩
    · exact hc ▸ ha u _ hv
    · exact ha u x hx
  intro a w r
  cases hb : b with
  | true => exact ht hb a w ⟨r.1, r.2.1, same _ hb a r.2.2.1, r.2.2.2⟩
  | false => exact hf hb a w ⟨r.1, r.2.1, same _ hb a r.2.2.1, r.2.2.2⟩
end Go.Abs
namespace Go.Abs
variable {E : Env} {k : List KI} {V : VF} {H : List HA}
end Go.Abs
namespace Go.Abs
variable {E : Env} {k : List KI} {V : VF} {H : List HA} {ops : Array Oper} {listed : Array Bool} {fuel : Nat} {Hs : List HA}
theorem anyo_turn {H' : List HA} {i : Nat} (h : Turn H H') (hk : AnyO E ops listed fuel k V H' Hs i) : AnyO E ops listed fuel k V H Hs i := fun a w r => hk a w (r.turn h)
end Go.Abs
namespace Go.Abs
variable {E : Env} {k : List KI} {V : VF} {H : List HA} {ops : Array Oper} {listed : Array Bool} {fuel : Nat} {Hs : List HA}
theorem any_weak {listed' : Array Bool} (l : List (Nat × Value)) (is : List Nat) (G : List HA) (hL : listed = listed') (hl : ∀ x ∈ l, V x.1 = some x.2) (hn : is.Nodup) (hG : Picks is H G)
    (h : AnyL E ops listed' fuel k (VF.of l) G Hs) : AnyL E ops listed fuel k V H Hs := by
  subst hL
  exact fun a w r => h a w ((r.vle (VF.le_of l hl)).pick hn hG)
theorem any_cut {fuel0 : Nat} {listed0 : Array Bool} (listed : Array Bool) (fuel : Nat) (S : Type) (Vi : S → List (Nat × Value)) (Hi : S → List HA) (inv : S → Prop)
    (h1 : (∀ s, inv s → AnyL E ops listed fuel k (VF.of (Vi s)) (Hi s) Hs) → AnyL E ops listed0 fuel0 k V H Hs)
    (h2 : ∀ s, inv s → AnyL E ops listed fuel k (VF.of (Vi s)) (Hi s) Hs) : AnyL E ops listed0 fuel0 k V H Hs := h1 h2
end Go.Abs
namespace Go.Abs
variable {E : Env} {k : List KI} {V : VF} {H : List HA} {ops : Array Oper} {listed : Array Bool} {fuel : Nat} {Hs : List HA}
theorem Rel.slc {a : Act} {w : World} (m : Nat) {h : HA} {v : Value} {es : Nat} {cells : List (List Value)} (hm : H[m]? = some h) (hr : Reads h v es cells) (q : Rel E V H a w) : v.cells = #[v] ∧ v.oneCell' = true := by
  obtain ⟨h1, h2, h3, o, hb, ht, hs⟩ := q
  obtain ⟨x, cap, e, _⟩ := hr.is w o m (hs m h hm)
  rw [e]; exact ⟨rfl, rfl⟩
theorem ops_slc {l : List Oper} (m : Nat) {h : HA} {v : Value} {es : Nat} {cells : List (List Value)} (hm : H[m]? = some h) (hr : Reads h v es cells) (hk : v.cells = #[v] → v.oneCell' = true → Ops E ops l k V H) : Ops E ops l k V H :=
  fun a w q => hk (q.slc m hm hr).1 (q.slc m hm hr).2 a w q
theorem anyo_slc {i : Nat} (m : Nat) {h : HA} {v : Value} {es : Nat} {cells : List (List Value)} (hm : H[m]? = some h) (hr : Reads h v es cells) (hk : v.cells = #[v] → v.oneCell' = true → AnyO E ops listed fuel k V H Hs i) : AnyO E ops listed fuel k V H Hs i :=
  fun a w q => hk (q.slc m hm hr).1 (q.slc m hm hr).2 a w q
end Go.Abs
namespace Go.Abs
@[simp] theorem bindJ_go {S R : Type} (s : S) (k : S → Option R) : bindJ (some (.go s)) k = k s := rfl
@[simp] theorem bindJ_stop {S R : Type} (r : R) (k : S → Option R) : bindJ (some (.stop r)) k = some r := rfl
@[simp] theorem bindJ_none {S R : Type} (k : S → Option R) : bindJ (none : Option (Lp S R)) k = none := rfl
theorem need_pos {α : Type} {p : Prop} [Decidable p] (h : p) (x : Option α) : need p x = x := by simp [need, h]
theorem idx_get {α β : Type} {l : List α} {i : Nat} {x : α} (h : l[i]? = some x) (k : α → Option β) : idx l (i : Int) k = k x := by simp [idx, h]
theorem idx_get' {α β : Type} {l : List α} {i : Nat} (h : i < l.length) (k : α → Option β) : idx l (i : Int) k = k l[i] := idx_get (List.getElem?_eq_getElem h) k
theorem iter_go {S R : Type} {step : S → Option (Lp S R)} {n : Nat} {s s' : S} (h : step s = some (.go s')) : iter step (n + 1) s = iter step n s' := by simp [iter, h]
theorem iter_stop {S R : Type} {step : S → Option (Lp S R)} {n : Nat} {s : S} {r : R} (h : step s = some (.stop r)) : iter step (n + 1) s = some r := by simp [iter, h]
/-- a loop by an invariant and a measure -/
theorem iter_inv {S R : Type} {step : S → Option (Lp S R)} (inv : S → Prop) (μ : S → Nat) (post : R → Prop)
    (h : ∀ s, inv s → (∃ s', step s = some (.go s') ∧ inv s' ∧ μ s' < μ s) ∨ (∃ r, step s = some (.stop r) ∧ post r)) :
    ∀ (n : Nat) (s : S), inv s → μ s < n → ∃ r, iter step n s = some r ∧ post r
  | 0, s, _, hm => by omega
  | n + 1, s, hi, hm => by
    rcases h s hi with ⟨s', h1, h2, h3⟩ | ⟨r, h1, h2⟩
    · obtain ⟨r, h4, h5⟩ := iter_inv inv μ post h n s' h2 (by omega)
      exact ⟨r, by rw [iter_go h1, h4], h5⟩
    · exact ⟨r, iter_stop h1, h2⟩
theorem w64 {x : Int} (h1 : -9223372036854775808 ≤ x) (h2 : x ≤ 9223372036854775807) : IntKind.i64.wrap x = x := wrap_i64 h1 h2
end Go.Abs
namespace Go.Abs
/-- a walk along a list that may stop -/
def foldL {α S R : Type} (f : S → α → Lp S R) (fin : S → R) : S → List α → R
  | s, [] => fin s
  | s, x :: r => match f s x with
    | .go s' => foldL f fin s' r
    | .stop q => q
def Lp.mapS {S T R : Type} (g : S → T) : Lp S R → Lp T R
  | .go s => .go (g s)
  | .stop r => .stop r
@[simp] theorem mapS_go {S T R : Type} (g : S → T) (s : S) : (Lp.go s : Lp S R).mapS g = .go (g s) := rfl
@[simp] theorem mapS_stop {S T R : Type} (g : S → T) (r : R) : (Lp.stop r : Lp S R).mapS g = .stop r := rfl
/-- a loop that counts along a list -/
theorem iter_fold {α S T R : Type} {step : T → Option (Lp T R)} {l : List α} (mk : Nat → S → T) (f : S → α → Lp S R) (fin : S → R) (inv : Nat → S → Prop)
    (hgo : ∀ i s x, inv i s → l[i]? = some x → step (mk i s) = some ((f s x).mapS (mk (i + 1))) ∧ ∀ s', f s x = .go s' → inv (i + 1) s')
    (hend : ∀ s, inv l.length s → step (mk l.length s) = some (.stop (fin s))) :
    ∀ (n i : Nat) (s : S), inv i s → i ≤ l.length → l.length - i < n → iter step n (mk i s) = some (foldL f fin s (l.drop i))
  | 0, i, s, _, _, h => by omega
  | n + 1, i, s, hi, hle, h => by
    by_cases e : i = l.length
    · subst e
      rw [iter_stop (hend s hi), List.drop_length]; rfl
    · have hlt : i < l.length := by omega
      obtain ⟨h1, h2⟩ := hgo i s _ hi (List.getElem?_eq_getElem hlt)
      rw [List.drop_eq_getElem_cons hlt]
      cases hf : f s l[i] with
      | go s' =>
        rw [hf] at h1
        rw [iter_go h1, iter_fold mk f fin inv hgo hend n (i + 1) s' (h2 s' hf) (by omega) (by omega)]
        simp [foldL, hf]
      | stop q =>
        rw [hf] at h1
        rw [iter_stop h1]
        simp [foldL, hf]
end Go.Abs
namespace Go.Abs
theorem foldL_gom {α S R : Type} {f : S → α → Lp S R} {fin : S → R} (g : S → α → S) : ∀ (l : List α) (s : S), (∀ s x, x ∈ l → f s x = .go (g s x)) → foldL f fin s l = fin (l.foldl g s)
  | [], s, _ => rfl
  | x :: r, s, h => by
    simp only [foldL, h s x (List.mem_cons_self ..), List.foldl_cons]
    exact foldL_gom g r _ (fun s y hy => h s y (List.mem_cons_of_mem _ hy))
/-- a loop that counts up to N -/
theorem iter_range {S T R : Type} {step : T → Option (Lp T R)} (N : Nat) (mk : Nat → S → T) (f : S → Nat → Lp S R) (fin : S → R) (inv : Nat → S → Prop)
    (hgo : ∀ i s, inv i s → i < N → step (mk i s) = some ((f s i).mapS (mk (i + 1))) ∧ ∀ s', f s i = .go s' → inv (i + 1) s')
    (hend : ∀ s, inv N s → step (mk N s) = some (.stop (fin s))) (n : Nat) (s : S) (h0 : inv 0 s) (hn : N < n) : iter step n (mk 0 s) = some (foldL f fin s (List.range N)) := by
  have := iter_fold (l := List.range N) mk f fin inv (fun i s x hi hx => by
    have hlt := (List.getElem?_eq_some_iff.1 hx).1
    simp at hlt
    have : x = i := by simp [hlt] at hx; exact hx.symm
    subst this
    exact hgo x s hi hlt) (fun s hs => by simpa using hend s (by simpa using hs)) n 0 s h0 (Nat.zero_le _) (by simpa using hn)
  simpa using this
theorem iter_allgo {R : Type} {step : Int → Option (Lp Int R)} (N : Nat) (q : R) (h : ∀ i : Nat, i < N → step (i : Int) = some (.go ((i + 1 : Nat) : Int))) (he : step (N : Int) = some (.stop q)) (n : Nat) (hn : N < n) : iter step n 0 = some q := by
  have := iter_range (step := step) N (fun (i : Nat) (_ : Unit) => (i : Int)) (fun _ _ => Lp.go ()) (fun _ => q) (fun _ _ => True) (fun i s _ hi => ⟨h i hi, fun _ _ => trivial⟩) (fun s _ => he) n () trivial hn
  rw [foldL_gom (fun _ _ => ()) _ _ (fun _ _ _ => rfl)] at this
  exact this
theorem idx_int {α β : Type} {l : List α} {w : Int} (h0 : 0 ≤ w) (h1 : w.toNat < l.length) (k : α → Option β) : idx l w k = k l[w.toNat] := by simp [idx, h0, List.getElem?_eq_getElem h1]
end Go.Abs
namespace Go.Abs
variable {E : Env} {k : List KI} {V : VF} {H : List HA}

/-- the part of a slice -/
def subS (v : Value) (es l r : Nat) : Value := match v with
  | .slice a _ cap => .slice (if cap = l then a else a.map (·.add (l * es))) (r - l) (cap - l)
  | v => v
theorem turn_sub (m : Nat) {v : Value} {es l r : Nat} {cells : List (List Value)} (hm : H[m]? = some (ro v es cells)) (h1 : l ≤ r) (h2 : r ≤ cells.length) : Turn H (H ++ [ro (subS v es l r) es ((cells.take r).drop l)]) :=
  turn_add fun w o hs => by
    obtain ⟨a, cap, e1, e2, e3, e4, e5⟩ := id (hs m _ hm)
    have h3 := hs m _ hm
    subst e1
    exact SliceIs.sub h3 h1 h2 (by omega) (Nat.le_refl _)
/-- a part of a row of our own, in its place -/
theorem RowIs.sub {w : World} {M : Nat → Prop} {v : Value} {es l r : Nat} {cells : List (List Value)} (h : RowIs w M v es cells) (h1 : l ≤ r) (h2 : r ≤ cells.length) : RowIs w M (subS v es l r) es ((cells.take r).drop l) := by
  rcases h with ⟨⟨a, rfl⟩, rfl⟩ | ⟨b, off, cap, arr, T, fz, rfl, g2, g3, g4, g5, g6, g7, g8, g9, g10⟩
  · simp at h2
    obtain rfl : r = 0 := h2
    obtain rfl : l = 0 := by omega
    exact .inl ⟨⟨a, by simp [subS]⟩, by simp⟩
  · by_cases hc : cap = l
    · have : r = l := by omega
      subst this
      refine .inl ⟨⟨_, by simp only [subS, hc, if_true, Nat.sub_self]; rfl⟩, by simp⟩
    · have hadd : (Addr.add ⟨b, off, none⟩ (l * es)) = ⟨b, off + l * es, none⟩ := by unfold Addr.add; split <;> simp_all
      have hmul : off + cap * es = off + l * es + (cap - l) * es := by rw [Nat.add_assoc, ← Nat.add_mul]; congr 2; omega
      refine .inr ⟨b, off + l * es, cap - l, arr, T, fz, ?_, g2, g3, g4, g5, by rw [g6, hmul], ?_, by omega, fun c hc => g9 c (List.mem_of_mem_take (List.mem_of_mem_drop hc)), ?_⟩
      · simp only [subS, hc, if_false, Option.map_some, hadd]
        congr 1
        simp
        omega
      · simp; omega
      · intro i c hi j x hj
        rw [List.getElem?_drop] at hi
        have hi' : cells[l + i]? = some c := by
          rw [List.getElem?_take] at hi
          split at hi
          · exact hi
          · cases hi
        have := g10 (l + i) c hi' j x hj
        rw [← this]
        congr 1
        rw [Nat.add_mul]; omega
theorem turn_subrow (m : Nat) {v : Value} {es l r : Nat} {cells : List (List Value)} (hm : H[m]? = some (row v es cells)) (h1 : l ≤ r) (h2 : r ≤ cells.length) : Turn H (H.set m (row (subS v es l r) es ((cells.take r).drop l))) :=
  fun w o hb hs => ⟨o, hb, Tr.refl w o, sats_upd (Nat.le_refl _) (fun _ _ _ => ⟨rfl, rfl⟩) hs (RowIs.sub (hs m _ hm) h1 h2)⟩
section
variable {P : Program} {d : Option Nat} {ty : TypeId} {pos : String} {af : Array Edge} {g : Option (Nat × Bool)}
def Bi (V : VF) (x : Option Operand) (dflt : Nat) (n : Int) : Prop := (x = none ∧ n = (dflt : Int)) ∨ ∃ y kd, x = some y ∧ V.ev y = some (.int kd n)
theorem bi0 {dflt : Nat} : Bi V none dflt (dflt : Int) := .inl ⟨rfl, rfl⟩
theorem bi1 {y : Operand} {kd : IntKind} {dflt : Nat} {n : Int} (h : V.ev y = some (.int kd n)) : Bi V (some y) dflt n := .inr ⟨y, kd, rfl, h⟩
theorem Bi.bd {x : Option Operand} {dflt : Nat} {n : Int} (h : Bi V x dflt n) (h0 : 0 ≤ n) : Bd V x dflt n.toNat := by
  rcases h with ⟨rfl, rfl⟩ | ⟨y, kd, rfl, hy⟩
  · exact .inl ⟨rfl, by simp⟩
  · exact .inr ⟨y, kd, rfl, by rw [hy, ← toNat_int h0]⟩
theorem y_slice {T el : TypeId} {x : Operand} {v : Value} {lo hi : Option Operand} {es : Nat} {l r : Int} {cells : List (List Value)} {h : HA} (m : Nat) (hu : ∀ w, (underlying T).run P w = .ok (.slice el) w)
    (hz : ∀ w, (sizeOf el).run P w = .ok es w) (hx : V.ev x = some v) (hm : H[m]? = some h) (hr' : Reads h v es cells) (hl : Bi V lo 0 l) (hr : Bi V hi cells.length r) (h0 : 0 ≤ l) (h1 : l ≤ r) (h2 : r ≤ (cells.length : Int)) :
    OpY P ⟨d, .slice T x lo hi none, ty, pos, af, g⟩ V H (subS v es l.toNat r.toNat) := by
  intro ρ w o hf hbd hs
  obtain ⟨a, cap, e1, e2, e3, e4, e5⟩ := hr'.is w o m (hs m h hm)
  subst e1
  have hrun := run_slice (P := P) (T := T) (w := w) (a := a) (mx := none) hu hz hf (hl.bd h0) (hr.bd (by omega)) rfl (by omega) (by omega) e2
  simp only [Option.map_none] at hrun
  simp [execOp, hf x _ hx, hrun, subS]
theorem map_sub {α : Type} {F : α → List Value} (l : List α) (a b : Nat) : ((l.map F).take b).drop a = ((l.take b).drop a).map F := by rw [List.map_drop, List.map_take]
theorem map_len_le {α : Type} {F : α → List Value} {l : List α} {r : Int} (h : r ≤ (l.length : Int)) : r ≤ ((l.map F).length : Int) := by simpa using h
theorem map_toNat_le {α : Type} {F : α → List Value} {l : List α} {r : Int} (h : r ≤ (l.length : Int)) : r.toNat ≤ (l.map F).length := by simp; omega
end

/-! what stays as it is may become more within a region -/
theorem wpAnyI_mono {r : Option Nat} {P : Program} {ops : Array Oper} {Q : Exit → Act → World → Prop} {S S' : World → Prop} (h : ∀ w, S' w → S w) : ∀ (fuel : Nat) (listed : Array Bool) (a : Act) (w : World),
    wpAnyI r P ops Q S' fuel listed a w → wpAnyI r P ops Q S fuel listed a w
  | 0, _, _, _, hh => hh
  | fuel + 1, _, _, _, hh => ⟨hh.1, fun i hi => wpOpI_mono (fun a' w' ⟨h1, h2⟩ => ⟨h w' h1, wpAnyI_mono h fuel _ a' w' h2⟩) (hh.2 i hi)⟩
theorem any_grow {ops : Array Oper} {listed : Array Bool} {fuel : Nat} {Hs : List HA} (Hs' : List HA) (hsub : Sub Hs' Hs) (hk : AnyL E ops listed fuel k V H Hs') : AnyL E ops listed fuel k V H Hs :=
  fun a w r => wpAnyI_mono (fun w ⟨o, hb, ht, hs⟩ => ⟨o, hb, ht, hsub.sats hs⟩) _ _ _ _ (hk a w r)
end Go.Abs
namespace Go.Abs
variable {E : Env} {k : List KI} {V : VF} {H : List HA}

/-- how an assertion of the caller's is handed to the callee: 0 seen as it is, 1 looked into, 2 lent -/
def ownX (sh : List (Nat × Nat)) (o : Own) : Own := fun b => match o b with
  | .mine m => match sh.findIdx? (fun s => s.2 == 2 && s.1 == m) with
    | some j => .mine j
    | none => if sh.any (fun s => s.2 == 1 && s.1 == m) then .no else .far
  | x => x
def okX (sh : List (Nat × Nat)) : Bool := (List.range sh.length).all fun j => match sh[j]? with
  | some (m, mode) => if mode == 2 then sh.findIdx? (fun s => s.2 == 2 && s.1 == m) == some j else
      if mode == 1 then (sh.findIdx? (fun s => s.2 == 2 && s.1 == m)).isNone else true
  | none => true
def ShowsX (H : List HA) (sh : List (Nat × Nat)) (Hc : List HA) : Prop :=
  sh.length = Hc.length ∧ ∀ (j m mode : Nat) (h : HA), sh[j]? = some (m, mode) → Hc[j]? = some h → ∃ h', H[m]? = some h' ∧ (if mode = 2 then h' = h else Views h' h (mode == 1))
theorem showsX_nil : ShowsX H [] [] := ⟨rfl, fun j m mode h hj => by simp at hj⟩
theorem showsX_view {sh : List (Nat × Nat)} {Hc : List HA} {h' h : HA} (m : Nat) (hm : H[m]? = some h') (hv : Views h' h false) (hr : ShowsX H sh Hc) : ShowsX H ((m, 0) :: sh) (h :: Hc) := by
  refine ⟨by simp [hr.1], fun j m' mode x hj hx => ?_⟩
  cases j with
  | zero => simp at hj hx; obtain ⟨rfl, rfl⟩ := hj; subst hx; exact ⟨h', hm, hv⟩
  | succ j => exact hr.2 j m' mode x (by simpa using hj) (by simpa using hx)
theorem showsX_look {sh : List (Nat × Nat)} {Hc : List HA} {h' h : HA} (m : Nat) (hm : H[m]? = some h') (hv : Views h' h true) (hr : ShowsX H sh Hc) : ShowsX H ((m, 1) :: sh) (h :: Hc) := by
  refine ⟨by simp [hr.1], fun j m' mode x hj hx => ?_⟩
  cases j with
  | zero => simp at hj hx; obtain ⟨rfl, rfl⟩ := hj; subst hx; exact ⟨h', hm, hv⟩
  | succ j => exact hr.2 j m' mode x (by simpa using hj) (by simpa using hx)
theorem showsX_lend {sh : List (Nat × Nat)} {Hc : List HA} {h : HA} (m : Nat) (hm : H[m]? = some h) (hr : ShowsX H sh Hc) : ShowsX H ((m, 2) :: sh) (h :: Hc) := by
  refine ⟨by simp [hr.1], fun j m' mode x hj hx => ?_⟩
  cases j with
  | zero => simp at hj hx; obtain ⟨rfl, rfl⟩ := hj; subst hx; exact ⟨h, hm, rfl⟩
  | succ j => exact hr.2 j m' mode x (by simpa using hj) (by simpa using hx)
/-- what is lent is the caller's no more -/
def lentOut (sh : List (Nat × Nat)) (H : List HA) : List HA := sh.foldl (fun H s => if s.2 == 2 then H.set s.1 HA.emp else H) H
theorem lentOut_length : ∀ (sh : List (Nat × Nat)) (H : List HA), (lentOut sh H).length = H.length
  | [], H => rfl
  | s :: sh, H => by
    unfold lentOut
    rw [List.foldl_cons]
    have := lentOut_length sh (if s.2 == 2 then H.set s.1 HA.emp else H)
    unfold lentOut at this
    rw [this]; split <;> simp
theorem lentOut_get : ∀ (sh : List (Nat × Nat)) (H : List HA) (m : Nat) (h : HA), (lentOut sh H)[m]? = some h → h = HA.emp ∨ (H[m]? = some h ∧ ∀ s ∈ sh, s.2 = 2 → s.1 ≠ m)
  | [], H, m, h, hm => .inr ⟨hm, by simp⟩
  | s :: sh, H, m, h, hm => by
    unfold lentOut at hm
    rw [List.foldl_cons] at hm
    rcases lentOut_get sh _ m h hm with h1 | ⟨h1, h2⟩
    · exact .inl h1
    · by_cases hs : s.2 = 2
      · simp only [hs, beq_self_eq_true, if_true] at h1
        by_cases he : s.1 = m
        · left
          subst he
          rw [List.getElem?_set] at h1
          simp at h1
          exact h1.2.symm
        · rw [List.getElem?_set_ne he] at h1
          exact .inr ⟨h1, fun x hx h3 => by
            rcases List.mem_cons.1 hx with rfl | hx
            · exact he
            · exact h2 x hx h3⟩
      · have : (s.2 == 2) = false := by simpa using hs
        simp only [this] at h1
        exact .inr ⟨h1, fun x hx h3 => by
          rcases List.mem_cons.1 hx with rfl | hx
          · exact absurd h3 hs
          · exact h2 x hx h3⟩

theorem t_callx {P : Program} {d : Option Nat} {ty : TypeId} {pos : String} {af : Array Edge} {g : Option (Nat × Bool)} {fx : Operand} {f : FuncId} {xs : Array Operand} {Ts : Array TypeId} {vs cs : List Value} {Hc : List HA} {post : Post}
    (sh : List (Nat × Nat)) (hfx : V.ev fx = some (.func (.func f) #[] cs.toArray)) (hcall : ∀ args w, (callFunc f args).run P w = .ok (.enter f args) w)
    (hxs : xs.toList.map V.ev = vs.map some) (hc : Meets P f (vs ++ cs) Hc post) (hsh : ShowsX H sh Hc) (hok : okX sh = true)
    (hst : (sh.all fun s => s.2 != 1) = true ∨ ∀ v G, post v G → ∀ g ∈ G, g.Strict) :
    OpT P ⟨d, .call ⟨.value fx, xs, Ts⟩, ty, pos, af, g⟩ V H (fun v' H' => ∃ G, post v' G ∧ H' = lentOut sh H ++ G) := by
  intro ρ w o hf hbd hs
  have hargs : (xs.map ρ) = vs.toArray := by
    apply Array.ext'
    rw [Array.toList_map]
    generalize xs.toList = l at hxs
    clear hc
    induction l generalizing vs with
    | nil => cases vs <;> simp_all
    | cons x r ih =>
      cases vs with
      | nil => simp at hxs
      | cons v vs =>
        simp only [List.map_cons, List.cons.injEq] at hxs ⊢
        exact ⟨hf _ _ hxs.1, ih hxs.2⟩
  have hrun : (execOp ρ ⟨d, .call ⟨.value fx, xs, Ts⟩, ty, pos, af, g⟩).run P w = .ok (.enter f (vs ++ cs).toArray) w := by
    simp [execOp, resolve, invoke, Deferred.ofValue, hf fx _ hfx, hargs, hcall]
  unfold Does
  rw [hrun]
  have hoc : ∀ b, o b = .no → ownX sh o b = .no := fun b hb => by simp [ownX, hb]
  have hall := List.all_eq_true.1 hok
  have hfar : ∀ b, o b = .far → ownX sh o b = .far := fun b hb => by simp [ownX, hb]
  -- who holds a block of the caller's own during the call
  have hmine : ∀ b m, o b = .mine m → (∃ j, sh.findIdx? (fun s => s.2 == 2 && s.1 == m) = some j ∧ ownX sh o b = .mine j) ∨
      (sh.findIdx? (fun s => s.2 == 2 && s.1 == m) = none ∧ ((ownX sh o b = .no ∧ (sh.any fun s => s.2 == 1 && s.1 == m) = true) ∨ ownX sh o b = .far)) := by
    intro b m hb
    simp only [ownX, hb]
    cases hfi : sh.findIdx? (fun s => s.2 == 2 && s.1 == m) with
    | some j => exact .inl ⟨j, rfl, rfl⟩
    | none =>
      right
      refine ⟨rfl, ?_⟩
      simp only []
      split
      · rename_i h; exact .inl ⟨rfl, h⟩
      · exact .inr rfl
  refine (hc w (ownX sh o) (fun b hb => hoc b (hbd b hb)) ?_).mono ?_
  · intro j h hj
    have hlt : j < sh.length := by rw [hsh.1]; exact (List.getElem?_eq_some_iff.1 hj).1
    obtain ⟨⟨m, mode⟩, hsj⟩ : ∃ s, sh[j]? = some s := ⟨_, List.getElem?_eq_getElem hlt⟩
    obtain ⟨h', hm, hv⟩ := hsh.2 j m mode h hsj hj
    have hchk := hall j (by simp [hlt])
    rw [hsj] at hchk
    simp only at hchk
    by_cases h2 : mode = 2
    · subst h2
      simp only [if_true] at hv
      subst hv
      simp only [beq_self_eq_true, if_true, beq_iff_eq] at hchk
      exact h'.keep (Nat.le_refl _) (fun b _ hb => ⟨by simp only [ownX, hb, hchk], rfl⟩) (fun b _ hb => ⟨hoc b hb, rfl⟩) (hs _ h' hm)
    · rw [if_neg h2] at hv
      refine hv w o _ _ j (fun b _ => hoc b) (fun hl b _ hb => ?_) (hs _ h' hm)
      have h1 : mode = 1 := by simpa using hl
      subst h1
      simp only [show ((1 : Nat) == 2) = false from rfl, beq_self_eq_true, if_true, Bool.false_eq_true, if_false, Option.isNone_iff_eq_none] at hchk
      rcases hmine b m hb with ⟨j', hj', _⟩ | ⟨_, h3 | h3⟩
      · rw [hchk] at hj'; cases hj'
      · exact h3.1
      · exfalso
        simp only [ownX, hb] at h3
        rw [hchk] at h3
        simp only at h3
        rw [if_pos (List.any_eq_true.2 ⟨(m, 1), List.mem_of_getElem? hsj, by simp⟩)] at h3
        cases h3
  · rintro e w' ⟨v, G, o', rfl, hp, hb', ht, hs'⟩
    let o2 : Own := fun b => if b < w.heap.size then (match o b with
        | .mine m => if (sh.findIdx? (fun s => s.2 == 2 && s.1 == m)).isSome then (match o' b with | .mine j => .mine (H.length + j) | _ => .no) else .mine m
        | x => x) else match o' b with | .mine j => .mine (H.length + j) | _ => .no
    -- what is not lent is as it was
    have keepb : ∀ b, b < w.heap.size → (∀ m, o b = .mine m → sh.findIdx? (fun s => s.2 == 2 && s.1 == m) = none) → o2 b = o b ∧ w'.heap[b]? = w.heap[b]? := by
      intro b hlt hnl
      cases hob : o b with
      | no => exact ⟨by simp [o2, hlt, hob], (ht.no b hlt (hoc b hob)).2⟩
      | far => exact ⟨by simp [o2, hlt, hob], (ht.far b hlt (hfar b hob)).2⟩
      | mine m =>
        have hn := hnl m hob
        refine ⟨by simp [o2, hlt, hob, hn], ?_⟩
        rcases hmine b m hob with ⟨j, hj, _⟩ | ⟨_, h3 | h3⟩
        · rw [hn] at hj; cases hj
        · exact (ht.no b hlt h3.1).2
        · exact (ht.far b hlt h3).2
    have hG : ∀ j b, o' b = .mine j → o2 b = .mine (H.length + j) := by
      intro j b he
      by_cases hlt : b < w.heap.size
      · cases hob : o b with
        | no => have := (ht.no b hlt (hoc b hob)).1; rw [he] at this; cases this
        | far => have := (ht.far b hlt (hfar b hob)).1; rw [he] at this; cases this
        | mine m =>
          rcases hmine b m hob with ⟨j', hj', _⟩ | ⟨hn, h3 | h3⟩
          · simp [o2, hlt, hob, hj', he]
          · have := (ht.no b hlt h3.1).1; rw [he] at this; cases this
          · have := (ht.far b hlt h3).1; rw [he] at this; cases this
      · simp [o2, hlt, he]
    refine ⟨v, rfl, lentOut sh H ++ G, o2, ⟨G, hp, rfl⟩, ?_, ?_, ?_⟩
    · intro b hle
      have hsz := ht.size
      have : ¬ b < w.heap.size := by omega
      simp [o2, this, hb' b hle]
    · refine ⟨ht.os, ht.tape, ht.output, ht.size, fun b hlt hb => ?_, fun b hlt hb => ?_⟩
      · have := keepb b hlt (fun m hm => by rw [hb] at hm; cases hm)
        exact ⟨this.1.trans hb, this.2⟩
      · have := keepb b hlt (fun m hm => by rw [hb] at hm; cases hm)
        exact ⟨this.1.trans hb, this.2⟩
    · intro j h hj
      rw [List.getElem?_append] at hj
      split at hj
      · rename_i hlt0
        rcases lentOut_get sh H j h hj with rfl | ⟨hj1, hj2⟩
        · trivial
        · refine h.keep ht.size (fun b hlt hb => ?_) (fun b hlt hb => ?_) (hs j h hj1)
          · have := keepb b hlt (fun m hm => by
              rw [hb] at hm; injection hm with hm; subst hm
              rw [List.findIdx?_eq_none_iff]
              intro s hsm
              by_cases h2 : s.2 = 2
              · have := hj2 s hsm h2; simp [this]
              · simp [h2])
            exact ⟨this.1.trans hb, this.2⟩
          · have := keepb b hlt (fun m hm => by rw [hb] at hm; cases hm)
            exact ⟨this.1.trans hb, this.2⟩
      · rename_i hge
        rw [lentOut_length] at hge hj
        have hjj : H.length + (j - H.length) = j := by omega
        have hp' := hs' _ h hj
        rcases hst with hst | hst
        · refine h.keep (Nat.le_refl _) (fun b _ hb => ⟨by rw [hG _ b hb, hjj], rfl⟩) (fun b hlt hb => ⟨?_, rfl⟩) hp'
          by_cases hlt' : b < w.heap.size
          · cases hob : o b with
            | no => simp [o2, hlt', hob]
            | far => have := (ht.far b hlt' (hfar b hob)).1; rw [hb] at this; cases this
            | mine m =>
              rcases hmine b m hob with ⟨j', hj', _⟩ | ⟨hn, h3 | h3⟩
              · simp [o2, hlt', hob, hj', hb]
              · exfalso
                obtain ⟨s, hsm, hs2⟩ := List.any_eq_true.1 h3.2
                have := List.all_eq_true.1 hst s hsm
                simp at this hs2
                exact this hs2.1
              · have := (ht.far b hlt' h3).1; rw [hb] at this; cases this
          · simp [o2, hlt', hb]
        · have hgm : h ∈ G := List.mem_of_getElem? hj
          exact hst v G hp h hgm w' o' _ o2 j (fun b _ hb => by rw [hG _ b hb, hjj]) hp'
end Go.Abs
namespace Go.Abs
set_option linter.unusedSimpArgs false
variable {E : Env} {k : List KI} {V : VF} {H : List HA}
section
variable {P : Program} {d : Option Nat} {ty : TypeId} {pos : String} {af : Array Edge} {g : Option (Nat × Bool)}
theorem y_makeFunc {f : FuncId} {caps : Array Operand} {vs : List Value} (h : caps.toList.map V.ev = vs.map some) : OpY P ⟨d, .makeFunc (.func f) #[] caps, ty, pos, af, g⟩ V H (.func (.func f) #[] vs.toArray) := by
  intro ρ w o hf _ _
  have : caps.map ρ = vs.toArray := by
    apply Array.ext'
    rw [Array.toList_map]
    generalize caps.toList = l at h
    induction l generalizing vs with
    | nil => cases vs <;> simp_all
    | cons x r ih =>
      cases vs with
      | nil => simp at h
      | cons v vs =>
        simp only [List.map_cons, List.cons.injEq] at h ⊢
        exact ⟨hf _ _ h.1, ih h.2⟩
  simp [execOp, Instr.makeFunc, this]

theorem map_rep {α : Type} {F : α → List Value} {n : Nat} {c : List Value} {a : α} (h : c = F a) : List.replicate n c = (List.replicate n a).map F := by rw [h, List.map_replicate]
end

/-! maps -/
def mget {κ β : Type} [DecidableEq κ] : List (κ × β) → κ → Option β
  | [], _ => none
  | p :: r, k => if p.1 = k then some p.2 else mget r k
def mput {κ β : Type} [DecidableEq κ] : List (κ × β) → κ → β → List (κ × β)
  | [], k, v => [(k, v)]
  | p :: r, k, v => if p.1 = k then (k, v) :: r else p :: mput r k v
def mfind {κ β : Type} [DecidableEq κ] : List (κ × β) → κ → Nat → Option (Nat × β)
  | [], _, _ => none
  | p :: r, k, i => if p.1 = k then some (i, p.2) else mfind r k (i + 1)
theorem mfind_get {κ β : Type} [DecidableEq κ] : ∀ (l : List (κ × β)) (k : κ) (i : Nat), (mfind l k i).map (·.2) = mget l k
  | [], _, _ => rfl
  | p :: r, k, i => by
    simp only [mfind, mget]
    split
    · rfl
    · exact mfind_get r k (i + 1)
/-- keys whose equality is seen at once -/
structure KeyOk {κ : Type} [DecidableEq κ] (ds : TypeDesc) (K : κ → Value) : Prop where
  same : ∀ a b, Instr.sameNow ds (K a) (K b) = some (decide (a = b))
  bits : ∀ a n, Instr.sameBits n (K a) (K a) = true
  plain : ∀ (P : Program) (t : TypeId), (∀ w, (underlying t).run P w = .ok ds w) → ∀ e a w, (Instr.checkKey e 10000 t (K a)).run P w = .ok () w
theorem key_int (kd : IntKind) : KeyOk (.int kd) (fun n : Int => Value.int kd n) :=
  ⟨fun a b => by simp [Instr.sameNow, beq_dec], fun a n => by cases n <;> simp [Instr.sameBits], fun P t h e a w => by
    rw [show (10000 : Nat) = 9999 + 1 from rfl, Instr.checkKey]
    simp only [Sem.run_bind, h, Result.andThen_ok]; rfl⟩
section
variable {P : Program} {d : Option Nat} {ty : TypeId} {pos : String} {af : Array Edge} {g : Option (Nat × Bool)} {κ β : Type} [DecidableEq κ]
def mcells (K : κ → Value) (G : β → Value) (l : List (κ × β)) : List (Value × Value) := l.map fun p => (K p.1, G p.2)
/-- a map of the call's own -/
def mapis (r : Nat) (kv : List (Value × Value)) : HA :=
  ⟨fun w o k => o r = .mine k ∧ r < w.heap.size ∧ ∃ es clock, w.heap[r]? = some (.map es clock) ∧ es.toList.map (fun e => (e.key, e.val)) = kv ∧ (∀ e ∈ es.toList, e.born < clock) ∧ (es.toList.map fun e : MapEntry => e.born).Nodup, fun hs h1 _ hc =>
    let ⟨e1, e2, es, cl, e3, e4⟩ := hc; let ⟨e5, e6⟩ := h1 r e2 e1; ⟨e5, Nat.lt_of_lt_of_le e2 hs, es, cl, e6.trans e3, e4⟩⟩
def mapV (r : Nat) : Value := .map (some r)
theorem findNow_eq {ds : TypeDesc} {K : κ → Value} {G : β → Value} (hK : KeyOk ds K) (k : κ) : ∀ (es : List MapEntry) (l : List (κ × β)) (i : Nat), es.map (fun e => (e.key, e.val)) = mcells K G l →
    Instr.findNow ds (K k) es i = some ((mfind l k i).map fun p => (p.1, G p.2))
  | [], l, i, h => by
    cases l with
    | nil => rfl
    | cons p r => simp [mcells] at h
  | e :: es, l, i, h => by
    cases l with
    | nil => simp [mcells] at h
    | cons p r =>
      simp only [mcells, List.map_cons, List.cons.injEq, Prod.mk.injEq] at h
      obtain ⟨⟨h1, h2⟩, h3⟩ := h
      simp only [Instr.findNow, mfind, h1, hK.same]
      by_cases hp : p.1 = k
      · subst hp; simp [h2]
      · have : ¬ k = p.1 := fun h => hp h.symm
        simp only [this, decide_false, hp, if_false]
        exact findNow_eq hK k es r (i + 1) h3
theorem run_findKey' {w : World} {t : TypeId} {ds : TypeDesc} {K : κ → Value} {G : β → Value} (hK : KeyOk ds K) (hu : ∀ w, (underlying t).run P w = .ok ds w) {es : List MapEntry} {l : List (κ × β)} (h : es.map (fun e => (e.key, e.val)) = mcells K G l) (k : κ) :
    (Instr.findKey t (K k) es).run P w = .ok ((mfind l k 0).map fun p => (p.1, G p.2)) w := by
  simp [Instr.findKey, hu, findNow_eq hK k es l 0 h]
/-- a look into a map -/
theorem y_lookup {T kt el : TypeId} {ds : TypeDesc} {K : κ → Value} {G : β → Value} {x y : Operand} {r : Nat} {l : List (κ × β)} {k : κ} {d0 : β} (m : Nat) (hK : KeyOk ds K) (hT : ∀ w, (underlying T).run P w = .ok (.map kt el) w) (hk : ∀ w, (underlying kt).run P w = .ok ds w)
    (hz : ∀ w, (zeroValue el).run P w = .ok (G d0) w) (hx : V.ev x = some (mapV r)) (hy : V.ev y = some (K k)) (hm : H[m]? = some (mapis r (mcells K G l))) : OpY P ⟨d, .lookup T x y false, ty, pos, af, g⟩ V H (G ((mget l k).getD d0)) := by
  intro ρ w o hf _ hs
  obtain ⟨_, _, es, cl, e3, e4, _⟩ := hs m _ hm
  have h1 := run_findKey' (P := P) (w := w) hK hk e4 k
  have h2 : (getObj r).run P w = .ok (.map es cl) w := by simp [getObj, Sem.run, e3]
  have h3 := hK.plain P kt hk es.isEmpty k w
  have hg := mfind_get l k 0
  cases hfi : mfind l k 0 with
  | none =>
    rw [hfi] at h1 hg
    simp at hg h1
    simp [execOp, Instr.lookup, hf x _ hx, hf y _ hy, hT, mapV, h2, h3, h1, hz, ← hg]
  | some p =>
    rw [hfi] at h1 hg
    simp at hg h1
    simp [execOp, Instr.lookup, hf x _ hx, hf y _ hy, hT, mapV, h2, h3, h1, ← hg]
theorem y_lookup2 {T kt el : TypeId} {ds : TypeDesc} {K : κ → Value} {G : β → Value} {x y : Operand} {r : Nat} {l : List (κ × β)} {k : κ} {d0 : β} (m : Nat) (hK : KeyOk ds K) (hT : ∀ w, (underlying T).run P w = .ok (.map kt el) w) (hk : ∀ w, (underlying kt).run P w = .ok ds w)
    (hz : ∀ w, (zeroValue el).run P w = .ok (G d0) w) (hx : V.ev x = some (mapV r)) (hy : V.ev y = some (K k)) (hm : H[m]? = some (mapis r (mcells K G l))) :
    OpY P ⟨d, .lookup T x y true, ty, pos, af, g⟩ V H (.tuple #[G ((mget l k).getD d0), .bool (mget l k).isSome]) := by
  intro ρ w o hf _ hs
  obtain ⟨_, _, es, cl, e3, e4, _⟩ := hs m _ hm
  have h1 := run_findKey' (P := P) (w := w) hK hk e4 k
  have h2 : (getObj r).run P w = .ok (.map es cl) w := by simp [getObj, Sem.run, e3]
  have h3 := hK.plain P kt hk es.isEmpty k w
  have hg := mfind_get l k 0
  cases hfi : mfind l k 0 with
  | none =>
    rw [hfi] at h1 hg
    simp at hg h1
    simp [execOp, Instr.lookup, hf x _ hx, hf y _ hy, hT, mapV, h2, h3, h1, hz, ← hg]
  | some p =>
    rw [hfi] at h1 hg
    simp at hg h1
    simp [execOp, Instr.lookup, hf x _ hx, hf y _ hy, hT, mapV, h2, h3, h1, ← hg]
theorem mput_cells {K : κ → Value} {G : β → Value} : ∀ (es : List MapEntry) (l : List (κ × β)) (k : κ) (v : β) (i : Nat), es.map (fun e => (e.key, e.val)) = mcells K G l →
    (match mfind l k i with
      | none => ∀ b, (es ++ [(⟨K k, G v, b⟩ : MapEntry)]).map (fun e => (e.key, e.val)) = mcells K G (mput l k v)
      | some (j, _) => i ≤ j ∧ (es.modify (j - i) fun e => { e with key := K k, val := G v }).map (fun e => (e.key, e.val)) = mcells K G (mput l k v) ∧ ((es[j - i]?).map (·.key)) = some (K k))
  | [], l, k, v, i, h => by
    cases l with
    | nil => simp [mfind, mput, mcells]
    | cons p r => simp [mcells] at h
  | e :: es, l, k, v, i, h => by
    cases l with
    | nil => simp [mcells] at h
    | cons p r =>
      simp only [mcells, List.map_cons, List.cons.injEq, Prod.mk.injEq] at h
      obtain ⟨⟨h1, h2⟩, h3⟩ := h
      by_cases hp : p.1 = k
      · subst hp
        simp only [mfind, mput, if_true]
        refine ⟨Nat.le_refl _, ?_, ?_⟩
        · simp [mcells, h3]
        · simp [h1]
      · have ih := mput_cells (K := K) (G := G) es r k v (i + 1) h3
        simp only [mfind, mput, if_neg hp]
        cases hm : mfind r k (i + 1) with
        | none =>
          rw [hm] at ih
          intro b
          have := ih b
          simp only [mcells] at this ⊢
          simp [h1, h2, ← this]
        | some q =>
          obtain ⟨j, b⟩ := q
          rw [hm] at ih
          obtain ⟨i1, i2, i3⟩ := ih
          have e : j - i = (j - (i + 1)) + 1 := by omega
          refine ⟨by omega, ?_, ?_⟩
          · rw [e, List.modify_succ_cons]
            simp only [List.map_cons, i2]
            simp [mcells, h1, h2]
          · rw [e]; simpa using i3
/-- a store into a map of the call's own -/
theorem t_mapUpdate {T kt el : TypeId} {ds : TypeDesc} {K : κ → Value} {G : β → Value} {x y z : Operand} {r : Nat} {l : List (κ × β)} {k : κ} {v : β} (m : Nat) (hK : KeyOk ds K) (hT : ∀ w, (underlying T).run P w = .ok (.map kt el) w) (hk : ∀ w, (underlying kt).run P w = .ok ds w)
    (hx : V.ev x = some (mapV r)) (hy : V.ev y = some (K k)) (hz : V.ev z = some (G v)) (hm : H[m]? = some (mapis r (mcells K G l))) (ins : Bool) :
    OpT P ⟨d, if ins then .insert T x y z else .mapUpdate T x y z, ty, pos, af, g⟩ V H (fun v' H' => v' = undef ∧ H' = H.set m (mapis r (mcells K G (mput l k v)))) := by
  intro ρ w o hf hbd hs
  obtain ⟨e1, e2, es, cl, e3, e4, e5, e6⟩ := hs m _ hm
  have h1 := run_findKey' (P := P) (w := w) hK hk e4 k
  have h2 : (getObj r).run P w = .ok (.map es cl) w := by simp [getObj, Sem.run, e3]
  have h3 := hK.plain P kt hk false k w
  have hmp := mput_cells (K := K) (G := G) es.toList l k v 0 e4
  obtain ⟨es', cl', hrun, hes, hb1, hb2⟩ : ∃ es' cl', (Instr.mapUpdate T (mapV r) (K k) (G v)).run P w = .ok () { w with heap := w.heap.setIfInBounds r (.map es' cl') } ∧ es'.toList.map (fun e => (e.key, e.val)) = mcells K G (mput l k v) ∧ (∀ e ∈ es'.toList, e.born < cl') ∧ (es'.toList.map (·.born)).Nodup := by
    cases hfi : mfind l k 0 with
    | none =>
      rw [hfi] at h1 hmp
      refine ⟨es.push ⟨K k, G v, cl⟩, cl + 1, ?_, by simpa using hmp cl, ?_, ?_⟩
      rotate_left
      · intro e he
        rw [Array.toList_push, List.mem_append] at he
        rcases he with he | he
        · have := e5 e he; omega
        · rw [List.mem_singleton.1 he]; simp
      · rw [Array.toList_push, List.map_append, List.nodup_append]
        refine ⟨e6, by simp, fun a ha b hb => ?_⟩
        simp only [List.map_cons, List.map_nil, List.mem_singleton] at hb
        obtain ⟨x, hx, rfl⟩ := List.mem_map.1 ha
        have := e5 x hx
        omega
      simp at h1
      simp [Instr.mapUpdate, mapV, hT, h2, h3, h1, setObj, Sem.run, e3]
    | some q =>
      obtain ⟨j, b⟩ := q
      rw [hfi] at h1 hmp
      obtain ⟨_, m1, m2⟩ := hmp
      simp at h1 m1 m2
      have hbo : ((es.modify j fun e => { e with key := K k, val := G v }).toList.map (·.born)) = es.toList.map (·.born) := by
        apply List.ext_getElem?
        intro q
        rw [Array.toList_modify]
        simp only [List.getElem?_map, List.getElem?_modify]
        cases es.toList[q]? with
        | none => simp
        | some e => by_cases hq : j = q <;> simp [hq]
      refine ⟨es.modify j fun e => { e with key := K k, val := G v }, cl, ?_, by simpa using m1, ?_, by rw [hbo]; exact e6⟩
      rotate_left
      · intro e he
        have : e.born ∈ es.toList.map (·.born) := by rw [← hbo]; exact List.mem_map.2 ⟨e, he, rfl⟩
        obtain ⟨x, hx, h⟩ := List.mem_map.1 this
        rw [← h]; exact e5 x hx
      obtain ⟨ee, he1, he2⟩ := m2
      have hkey : (Instr.keyThatStays (((es[j]?).map (·.key)).getD (K k)) (K k)).run P w = .ok (K k) w := by
        simp [he1, he2, Instr.keyThatStays, hK.bits]
      simp [Instr.mapUpdate, mapV, hT, h2, h3, h1]
      rw [hkey]
      simp [setObj, Sem.run, e3]
  have hrun2 : (execOp ρ ⟨d, if ins then .insert T x y z else .mapUpdate T x y z, ty, pos, af, g⟩).run P w = .ok .skip { w with heap := w.heap.setIfInBounds r (.map es' cl') } := by
    cases ins <;> simp [execOp, hf x _ hx, hf y _ hy, hf z _ hz, hrun]
  unfold Does
  rw [hrun2]
  have hoth : ∀ b, b ≠ r → (w.heap.setIfInBounds r (.map es' cl'))[b]? = w.heap[b]? := fun b hb => Array.getElem?_setIfInBounds_ne (Ne.symm hb)
  refine ⟨_, o, ⟨rfl, rfl⟩, fun b hb => hbd b (by simpa using hb), ⟨rfl, rfl, rfl, by simp, fun b hlt hb => ⟨hb, hoth b ?_⟩, fun b hlt hb => ⟨hb, hoth b ?_⟩⟩, ?_⟩
  · rintro rfl; rw [e1] at hb; cases hb
  · rintro rfl; rw [e1] at hb; cases hb
  · refine sats_upd (by simp) (fun b hlt hb => ⟨rfl, hoth b ?_⟩) hs ⟨e1, by simpa using e2, es', cl', by simp [e2], hes, hb1, hb2⟩
    rintro rfl; exact hb e1
/-- a new map -/
theorem t_makeMap {T : TypeId} : OpT P ⟨d, .makeMap T none, ty, pos, af, g⟩ V H (fun v' H' => ∃ r, v' = mapV r ∧ H' = H ++ [mapis r []]) := by
  intro ρ w o hf hbd hs
  have hn := nw_push w (.map #[] 0) w.drawn
  have hrun : (execOp ρ ⟨d, .makeMap T none, ty, pos, af, g⟩).run P w = .ok (.value (mapV w.heap.size)) { w with heap := w.heap.push (.map #[] 0) } := by
    simp [execOp, Instr.makeMap, newObj, mapV, Sem.run]
  unfold Does
  rw [hrun]
  obtain ⟨h1, h2, h3⟩ := sats_new (g := mapis w.heap.size []) hbd hn hs ⟨by simp [addOwn], by simp, #[], 0, by simp, rfl, by simp, by simp⟩
  exact ⟨_, _, ⟨_, rfl, rfl⟩, h1, h2, h3⟩
end
end Go.Abs
namespace Go.Abs
set_option linter.unusedSimpArgs false
set_option linter.unusedVariables false
variable {E : Env} {k : List KI} {V : VF} {H : List HA}
/-- an assertion that hangs on what nobody writes, and on nothing else -/
def Free (a : HA) : Prop := ∀ w o o' k k', (∀ b, b < w.heap.size → o b = .no → o' b = .no) → a.p w o k → a.p w o' k'
theorem Free.at {a : HA} (h : Free a) : ∀ w o k k', a.p w o k → a.p w o k' := fun w o k k' => h w o o k k' fun _ _ h => h
theorem free_ro {v : Value} {es : Nat} {cells : List (List Value)} : Free (ro v es cells) := fun _ _ _ _ _ ho h => SliceIs.keep (Nat.le_refl _) (fun b hlt hb => ⟨ho b hlt hb, rfl⟩) h
theorem views_free {a : HA} (h : Free a) : Views a a false := fun w o m oc j h1 _ hp => h w o oc m j h1 hp

/-- how an element with slices in it is laid into cells: g, the slices' values; S, what is behind them -/
structure NC (α : Type) where
  G : Type
  es : Nat
  F : α → G → List Value
  S : α → G → List HA
  free : ∀ x g, ∀ h ∈ S x g, Free h
  ok : ∀ x g w o k, (∀ h ∈ S x g, h.p w o k) → (F x g).length = es ∧ ∀ u ∈ F x g, u.oneCell' = true
  /-- what is only read and empty is nil -/
  nn : Bool := false

def HsP (L : List HA) (w : World) (o : Own) (k : Nat) : Prop := ∀ h ∈ L, h.p w o k
theorem HsP.keep {L : List HA} {w w' : World} {o o' : Own} {k k' : Nat} (hs : w.heap.size ≤ w'.heap.size) (h1 : ∀ b, b < w.heap.size → o b = .mine k → o' b = .mine k' ∧ w'.heap[b]? = w.heap[b]?)
    (h2 : ∀ b, b < w.heap.size → o b = .no → o' b = .no ∧ w'.heap[b]? = w.heap[b]?) (h : HsP L w o k) : HsP L w' o' k' := fun x hx => x.keep hs h1 h2 (h x hx)
theorem HsP.free {L : List HA} (hL : ∀ h ∈ L, Free h) {w : World} {o o' : Own} {k k' : Nat} (ho : ∀ b, b < w.heap.size → o b = .no → o' b = .no) (h : HsP L w o k) : HsP L w o' k' :=
  fun x hx => hL x hx w o o' k k' ho (h x hx)
section
variable {α : Type} {C : NC α} {v : Value} {l : List α}
def NC.cs (C : NC α) (lg : List (α × C.G)) : List (List Value) := lg.map fun p => C.F p.1 p.2
def nrow (v : Value) (C : NC α) (l : List α) : HA :=
  ⟨fun w o k => ∃ lg : List (α × C.G), l = lg.map (·.1) ∧ RowIs w (fun b => o b = .mine k) v C.es (C.cs lg) ∧ ∀ p ∈ lg, HsP (C.S p.1 p.2) w o k,
   fun hs h1 h2 ⟨lg, e, a, b⟩ => ⟨lg, e, a.keep hs h1, fun p hp => (b p hp).keep hs h1 h2⟩⟩
def nro (v : Value) (C : NC α) (l : List α) : HA :=
  ⟨fun w o k => (∃ lg : List (α × C.G), l = lg.map (·.1) ∧ SliceIs w (fun b => o b = .no) v C.es (C.cs lg) ∧ ∀ p ∈ lg, HsP (C.S p.1 p.2) w o k) ∧ (C.nn = true → l = [] → v = .slice none 0 0),
   fun hs h1 h2 ⟨⟨lg, e, a, b⟩, z⟩ => ⟨⟨lg, e, a.keep hs h2, fun p hp => (b p hp).keep hs h1 h2⟩, z⟩⟩
theorem NC.cs_len {lg : List (α × C.G)} (h : l = lg.map (·.1)) : (C.cs lg).length = l.length := by rw [h]; simp [NC.cs]
theorem free_nro : Free (nro v C l) := fun w o o' k k' ho ⟨⟨lg, e, a, b⟩, z⟩ => ⟨⟨lg, e, a.keep (Nat.le_refl _) (fun b hlt hb => ⟨ho b hlt hb, rfl⟩), fun p hp => (b p hp).free (C.free _ _) ho⟩, z⟩
theorem views_nro : Views (nro v C l) (nro v C l) false := views_free free_nro
theorem views_nrow (hn : C.nn = true → l ≠ [] := by exact fun h => absurd h (by decide)) : Views (nrow v C l) (nro v C l) true := fun w o m oc j h1 h2 ⟨lg, e, a, b⟩ =>
  ⟨⟨lg, e, (RowIs.slice (B := fun b => o b = .mine m) (fun _ hb => hb) a).keep (Nat.le_refl _) (fun b hlt hb => ⟨h2 rfl b hlt hb, rfl⟩), fun p hp => (b p hp).free (C.free _ _) h1⟩, fun h he => absurd he (hn h)⟩
theorem freezeN (m : Nat) (hm : H[m]? = some (nrow v C l)) (hn : C.nn = true → l ≠ [] := by exact fun h => absurd h (by decide)) : Turn H (H.set m (nro v C l)) :=
  turn_give hm fun w o ⟨lg, e, a, b⟩ => ⟨⟨lg, e, SliceIs.keep (Nat.le_refl _) (fun _ _ hb => ⟨giveUp_mine hb, rfl⟩) (RowIs.slice (fun _ hb => hb) a),
    fun p hp => (b p hp).free (C.free _ _) (fun b _ hb => by simp [giveUp, hb, dropO])⟩, fun h he => absurd he (hn h)⟩
theorem nil_ro {w : World} {o : Own} {k : Nat} (es : Nat) : (ro (.slice none 0 0) es []).p w o k := ⟨none, 0, rfl, Nat.le_refl _, Nat.zero_le _, fun _ => rfl, fun i c hi => by simp at hi⟩
theorem nil_nro {w : World} {o : Own} {k : Nat} (C : NC α) : (nro (.slice none 0 0) C []).p w o k := ⟨⟨[], rfl, ⟨none, 0, rfl, Nat.le_refl _, Nat.zero_le _, fun _ => rfl, fun i c hi => by simp [NC.cs] at hi⟩, fun p hp => by simp at hp⟩, fun _ _ => rfl⟩

/-- whatever can be read as a slice of n elements -/
structure ReadsN (h : HA) (v : Value) (es n : Nat) : Prop where
  is : ∀ w o k, h.p w o k → ∃ a cap, v = .slice a n cap ∧ n ≤ cap ∧ cap ≤ maxLen ∧ (a = none → cap = 0) ∧ (0 < n → ∃ b off, a = some ⟨b, off, none⟩)
theorem SliceIs.readsN {w : World} {B : Nat → Prop} {es : Nat} {cells : List (List Value)} (h : SliceIs w B v es cells) : ∃ a cap, v = .slice a cells.length cap ∧ cells.length ≤ cap ∧ cap ≤ maxLen ∧ (a = none → cap = 0) ∧ (0 < cells.length → ∃ b off, a = some ⟨b, off, none⟩) := by
  obtain ⟨a, cap, e1, e2, e3, e4, e5⟩ := h
  refine ⟨a, cap, e1, e2, e3, e4, fun h0 => ?_⟩
  obtain ⟨_, b, off, e6, _⟩ := e5 0 _ (List.getElem?_eq_getElem h0)
  exact ⟨b, off, e6⟩
theorem readsN_ro : ReadsN (nro v C l) v C.es l.length := ⟨fun w o k ⟨⟨lg, e, a, _⟩, _⟩ => by have := a.readsN; rwa [NC.cs_len e] at this⟩
theorem readsN_row : ReadsN (nrow v C l) v C.es l.length := ⟨fun w o k ⟨lg, e, a, _⟩ => by have := (RowIs.slice (B := fun b => o b = .mine k) (fun _ hb => hb) a).readsN; rwa [NC.cs_len e] at this⟩
end

/-! facts with a witness -/
def ExT {γ : Type} (H : List HA) (K : γ → List HA) : Prop := ∀ w o, Bnd w o → Sats w o H → ∃ g, Sats w o (H ++ K g)
theorem Rel.ex {γ : Type} {K : γ → List HA} (h : ExT H K) {a : Act} {w : World} (r : Rel E V H a w) : ∃ g, Rel E V (H ++ K g) a w := by
  obtain ⟨h1, h2, h3, o, hb, ht, hs⟩ := r
  obtain ⟨g, hg⟩ := h w o hb hs
  exact ⟨g, h1, h2, h3, o, hb, ht, hg⟩
section
variable {γ : Type} {K : γ → List HA} {ops : Array Oper} {listed : Array Bool} {fuel : Nat} {Hs : List HA}
theorem ops_ex {l : List Oper} (h : ExT H K) (hk : ∀ g, Ops E ops l k V (H ++ K g)) : Ops E ops l k V H := fun a w r => let ⟨g, r'⟩ := r.ex h; hk g a w r'
theorem any_ex (h : ExT H K) (hk : ∀ g, AnyL E ops listed fuel k V (H ++ K g) Hs) : AnyL E ops listed fuel k V H Hs := fun a w r => let ⟨g, r'⟩ := r.ex h; hk g a w r'
end
theorem sats_append {w : World} {o : Own} {K : List HA} (hK : ∀ h ∈ K, Free h) (hs : Sats w o H) (k0 : Nat) (h : HsP K w o k0) : Sats w o (H ++ K) := by
  intro j x hj
  rw [List.getElem?_append] at hj
  split at hj
  · exact hs j x hj
  · have hm := List.mem_of_getElem? hj
    exact (hK x hm).at w o k0 j (h x hm)

/-! an element of a slice that nobody writes -/
def atc (v : Value) (n : Nat) (cs : List Value) : HA :=
  ⟨fun w o _ => ∃ b off len cap, v = .slice (some ⟨b, off, none⟩) len cap ∧ b < w.heap.size ∧ o b = .no ∧ ∀ (j : Nat) (x : Value), cs[j]? = some x → w.cell? ⟨b, off + n + j, none⟩ = some x,
   fun hs _ h2 ⟨b, off, len, cap, e1, e2, e3, e4⟩ => let ⟨f1, f2⟩ := h2 b e2 e3; ⟨b, off, len, cap, e1, Nat.lt_of_lt_of_le e2 hs, f1, fun j x hj => by rw [cell_of_block f2]; exact e4 j x hj⟩⟩
theorem free_atc {v : Value} {n : Nat} {cs : List Value} : Free (atc v n cs) := fun w o o' k k' ho ⟨b, off, len, cap, e1, e2, e3, e4⟩ => ⟨b, off, len, cap, e1, e2, ho b e2 e3, e4⟩
section
variable {α : Type} {C : NC α} {v : Value} {l : List α}
theorem nget {G : Type} {lg : List (α × G)} {i : Nat} {x : α} (hl : l = lg.map (·.1)) (hx : l[i]? = some x) : ∃ g, lg[i]? = some (x, g) := by
  subst hl
  rw [List.getElem?_map] at hx
  cases h : lg[i]? with
  | none => rw [h] at hx; simp at hx
  | some p => rw [h] at hx; simp at hx; exact ⟨p.2, by rw [← hx]⟩
theorem cs_get {lg : List (α × C.G)} {i : Nat} {x : α} {g : C.G} (h : lg[i]? = some (x, g)) : (C.cs lg)[i]? = some (C.F x g) := by simp [NC.cs, h]
/-- what an element's cells hold, and what is behind them -/
theorem exAt {i : Nat} {x : α} (m : Nat) (hm : H[m]? = some (nro v C l)) (hx : l[i]? = some x) : ExT H (fun g : C.G => atc v (i * C.es) (C.F x g) :: C.S x g) := by
  intro w o hb hs
  obtain ⟨⟨lg, e, ha, hS⟩, _⟩ := hs m _ hm
  obtain ⟨g, hg⟩ := nget e hx
  obtain ⟨a, cap, g1, _, _, _, hc⟩ := id ha
  obtain ⟨_, b, off, f1, f2, f3, f4⟩ := hc i _ (cs_get hg)
  refine ⟨g, sats_append (k0 := m) ?_ hs ?_⟩
  · intro h hh
    rcases List.mem_cons.1 hh with rfl | hh
    · exact free_atc
    · exact C.free _ _ h hh
  · intro h hh
    rcases List.mem_cons.1 hh with rfl | hh
    · exact ⟨b, off, _, _, by rw [g1, f1], f2, f3, f4⟩
    · exact hS _ (List.mem_of_getElem? hg) h hh
section
variable {P : Program} {d : Option Nat} {ty : TypeId} {pos : String} {af : Array Edge} {g : Option (Nat × Bool)}
theorem y_load_at {T : TypeId} {x : Operand} {r : Value} {n j : Nat} {cs : List Value} (m : Nat) (ha : ∀ w, (isAgg T).run P w = .ok false w) (hx : V.ev x = some (elemP v (n + j))) (hm : H[m]? = some (atc v n cs)) (hc : cs[j]? = some r) :
    OpY P ⟨d, .load T x, ty, pos, af, g⟩ V H r := by
  intro ρ w o hf _ hs
  obtain ⟨b, off, len, cap, e1, _, _, e4⟩ := hs m _ hm
  have := e4 j r hc
  subst e1
  simp [execOp, hf x _ hx, Instr.loadAt, Instr.sureAddr, elemP, Value.sbase, loadVar, ha]
  rw [show off + (n + j) = off + n + j by omega]
  simp [this]
theorem y_load_atagg {T : TypeId} {x : Operand} {n j : Nat} {c cs : List Value} (m : Nat) (ha : ∀ w, (isAgg T).run P w = .ok true w) (hz : ∀ w, (sizeOf T).run P w = .ok c.length w) (hx : V.ev x = some (elemP v (n + j))) (hm : H[m]? = some (atc v n cs))
    (hc : (cs.drop j).take c.length = c) : OpY P ⟨d, .load T x, ty, pos, af, g⟩ V H (.agg c.toArray) := by
  intro ρ w o hf _ hs
  obtain ⟨b, off, len, cap, e1, _, _, e4⟩ := hs m _ hm
  subst e1
  have := run_loadCells (P := P) (w := w) b (off + n + j) c (fun i y hi => by
    rw [← hc, List.getElem?_take] at hi
    split at hi
    · rw [List.getElem?_drop] at hi
      have := e4 _ y hi
      rwa [show off + n + (j + i) = off + n + j + i by omega] at this
    · simp at hi)
  rw [show off + n + j = off + (n + j) by omega] at this
  simp [execOp, hf x _ hx, Instr.loadAt, Instr.sureAddr, elemP, Value.sbase, loadVar, ha, hz, this]
theorem y_lenN {Ts : Array TypeId} {T el : TypeId} {x : Operand} {es n : Nat} {h : HA} (m : Nat) (hT : Ts[0]? = some T) (hu : ∀ w, (underlying T).run P w = .ok (.slice el) w)
    (hx : V.ev x = some v) (hm : H[m]? = some h) (hr : ReadsN h v es n) : OpY P ⟨d, .call ⟨.builtin .len, #[x], Ts⟩, ty, pos, af, g⟩ V H (.int .i64 n) := by
  intro ρ w o hf _ hs
  obtain ⟨a, cap, e1, _⟩ := hr.is w o m (hs m h hm)
  subst e1
  simp [execOp, resolve, invoke, builtin, hf x _ hx, run_len hT hu]
theorem y_indexAddrN {T el : TypeId} {x y : Operand} {kd : IntKind} {i : Int} {es n : Nat} {h : HA} (m : Nat) (hu : ∀ w, (underlying T).run P w = .ok (.slice el) w)
    (hz : ∀ w, (sizeOf el).run P w = .ok es w) (hx : V.ev x = some v) (hy : V.ev y = some (.int kd i)) (hm : H[m]? = some h) (hr : ReadsN h v es n) (h0 : 0 ≤ i) (hn : i.toNat < n) :
    OpY P ⟨d, .indexAddr T x y, ty, pos, af, g⟩ V H (elemP v (i.toNat * es)) := by
  intro ρ w o hf _ hs
  obtain ⟨a, cap, e1, _, _, _, e5⟩ := hr.is w o m (hs m h hm)
  obtain ⟨b, off, rfl⟩ := e5 (by omega)
  subst e1
  obtain ⟨q, rfl⟩ : ∃ q : Nat, i = q := ⟨i.toNat, by omega⟩
  simp only [Int.toNat_natCast] at hn ⊢
  have ha : (Addr.add ⟨b, off, none⟩ (q * es)) = ⟨b, off + q * es, none⟩ := by
    unfold Addr.add; split
    · rename_i h0; rw [h0]; rfl
    · rfl
  simp [execOp, hf x _ hx, hf y _ hy, Instr.indexAt, asIntOf, hu, hz, elemP, Value.sbase, ha, hn]
/-! what is behind a list of elements is known -/
def Has (H L : List HA) : Prop := ∀ h ∈ L, (∀ w o k, h.p w o k) ∨ ∃ j : Nat, H[j]? = some h
theorem has_nil : Has H [] := fun h hh => by simp at hh
theorem has_cons {h : HA} {L : List HA} (j : Nat) (hj : H[j]? = some h) (r : Has H L) : Has H (h :: L) := fun x hx => by
  rcases List.mem_cons.1 hx with rfl | hx
  · exact .inr ⟨j, hj⟩
  · exact r x hx
theorem has_true {h : HA} {L : List HA} (ht : ∀ w o k, h.p w o k) (r : Has H L) : Has H (h :: L) := fun x hx => by
  rcases List.mem_cons.1 hx with rfl | hx
  · exact .inl ht
  · exact r x hx
theorem Has.sat {L : List HA} (hL : ∀ h ∈ L, Free h) (h : Has H L) {w : World} {o : Own} (hs : Sats w o H) (k : Nat) : HsP L w o k := fun x hx => by
  rcases h x hx with ht | ⟨j, hj⟩
  · exact ht w o k
  · exact (hL x hx).at w o j k (hs j x hj)
def HasAll (H : List HA) (C : NC α) (lg : List (α × C.G)) : Prop := ∀ p ∈ lg, Has H (C.S p.1 p.2)
theorem hasall_nil : HasAll H C [] := fun p hp => by simp at hp
theorem hasall_cons {x : α} {g : C.G} {lg : List (α × C.G)} (h : Has H (C.S x g)) (r : HasAll H C lg) : HasAll H C ((x, g) :: lg) := fun p hp => by
  rcases List.mem_cons.1 hp with rfl | hp
  · exact h
  · exact r p hp
theorem turn_closeR (m : Nat) (lg : List (α × C.G)) {cells : List (List Value)} (hm : H[m]? = some (row v C.es cells)) (hc : cells = C.cs lg) (hl : l = lg.map (·.1)) (hS : HasAll H C lg) : Turn H (H.set m (nrow v C l)) := by
  intro w o hb hs
  exact ⟨o, hb, Tr.refl w o, sats_upd (Nat.le_refl _) (fun _ _ _ => ⟨rfl, rfl⟩) hs ⟨lg, hl, hc ▸ hs m _ hm, fun p hp => (hS p hp).sat (C.free _ _) hs m⟩⟩
/-! writes -/
theorem Free.tr {h : HA} (hF : Free h) {w w' : World} {o o' : Own} (ht : Tr w o w' o') (k0 k1 : Nat) (hh : h.p w o k0) : h.p w' o' k1 :=
  (hF.at w' o' 0 k1) (HA.keep h ht.size (k := k0) (k' := 0) (o := fun b => match o b with | .no => .no | _ => .far) (o' := o') (fun b _ hb => by split at hb <;> cases hb) (fun b hlt hb => ht.no b hlt (by
    split at hb
    · assumption
    · cases hb)) (hF w o _ k0 k0 (fun b _ hb => by simp [hb]) hh))
theorem HsP.tr {L : List HA} (hL : ∀ h ∈ L, Free h) {w w' : World} {o o' : Own} (ht : Tr w o w' o') {k0 : Nat} (k1 : Nat) (h : HsP L w o k0) : HsP L w' o' k1 := fun x hx => (hL x hx).tr ht k0 k1 (h x hx)
theorem Does.imp {P : Program} {s : Sem Next} {w : World} {D D' : Value → World → Prop} (h : Does P s w D) (hd : ∀ v w', D v w' → D' v w') : Does P s w D' := by
  unfold Does at h ⊢
  generalize s.run P w = x at *
  cases x with
  | halt x w' => simp at h
  | ok nx w' =>
    cases nx <;> simp only [] at h ⊢
    case value v => exact hd _ _ h
    case skip => exact hd _ _ h
    case enter f args => exact h.mono fun e w'' ⟨v, e1, h1⟩ => ⟨v, e1, hd _ _ h1⟩
end
end

/-! a slice's value lies in one cell -/
theorem ro_one {v : Value} {es : Nat} {cells : List (List Value)} {w : World} {o : Own} {k : Nat} (h : (ro v es cells).p w o k) : v.oneCell' = true := by
  obtain ⟨a, cap, e, _⟩ := h; rw [e]; rfl
theorem nro_one {α : Type} {C : NC α} {v : Value} {l : List α} {w : World} {o : Own} {k : Nat} (h : (nro v C l).p w o k) : v.oneCell' = true := by
  obtain ⟨⟨lg, _, ⟨a, cap, e, _⟩, _⟩, _⟩ := h; rw [e]; rfl
section
variable {ops : Array Oper} {listed : Array Bool} {fuel : Nat} {Hs : List HA} {h : HA} {v : Value} {es n : Nat}
theorem Rel.slcN {a : Act} {w : World} (m : Nat) (hm : H[m]? = some h) (hr : ReadsN h v es n) (q : Rel E V H a w) : v.cells = #[v] ∧ v.oneCell' = true := by
  obtain ⟨h1, h2, h3, o, hb, ht, hs⟩ := q
  obtain ⟨x, cap, e, _⟩ := hr.is w o m (hs m h hm)
  rw [e]; exact ⟨rfl, rfl⟩
theorem ops_slcN {l : List Oper} (m : Nat) (hm : H[m]? = some h) (hr : ReadsN h v es n) (hk : v.cells = #[v] → v.oneCell' = true → Ops E ops l k V H) : Ops E ops l k V H :=
  fun a w q => hk (q.slcN m hm hr).1 (q.slcN m hm hr).2 a w q
end
section
variable {P : Program} {d : Option Nat} {ty : TypeId} {pos : String} {af : Array Edge} {g : Option (Nat × Bool)}
end
theorem any_cut2 {ops : Array Oper} {Hs : List HA} {fuel0 : Nat} {listed0 : Array Bool} (listed : Array Bool) (fuel : Nat) (S : Type) (Vi : S → List (Nat × Value)) (Hi : S → List HA)
    (h2 : ∀ s, AnyL E ops listed fuel k (VF.of (Vi s)) (Hi s) Hs) (h1 : (∀ s, AnyL E ops listed fuel k (VF.of (Vi s)) (Hi s) Hs) → AnyL E ops listed0 fuel0 k V H Hs) : AnyL E ops listed0 fuel0 k V H Hs := h1 h2
theorem any_weak2 {ops : Array Oper} {Hs : List HA} {fuel : Nat} {listed listed' : Array Bool} {l : List (Nat × Value)} {G : List HA} (h : AnyL E ops listed' fuel k (VF.of l) G Hs) (is : List Nat) (hL : listed = listed') (hl : ∀ x ∈ l, V x.1 = some x.2) (hn : is.Nodup) (hG : Picks is H G) :
    AnyL E ops listed fuel k V H Hs := any_weak l is G hL hl hn hG h
theorem oy {ops : Array Oper} {op : Oper} {rest : List Oper} {v : Value} (hw : op.guard = none) (hd : inB E.n op.dst = true) (h : OpY E.P op V H v)
    (hk : Ops E ops rest k (V.put op.dst v) H) : Ops E ops (op :: rest) k V H := ops_y (wn hw) hd h hk
theorem ot {ops : Array Oper} {op : Oper} {rest : List Oper} {post : Post} (hw : op.guard = none) (hd : inB E.n op.dst = true) (h : OpT E.P op V H post)
    (hk : ∀ v H', post v H' → Ops E ops rest k (V.put op.dst v) H') : Ops E ops (op :: rest) k V H := ops_t (wn hw) hd h hk
theorem sy {ops : Array Oper} {op : Oper} {rest : List Oper} {v : Value} (hw : op.guard = none) (hd : inB E.n op.dst = true) (h : OpY E.P op V H v)
    (hk : StillL E ops rest k (V.put op.dst v) H) : StillL E ops (op :: rest) k V H := still_y (wn hw) hd h hk
theorem ss {H Hs : List HA} {h : HA} (r : Sub H Hs) : Sub (h :: H) (h :: Hs) := sub_same r
theorem se {H Hs : List HA} {h : HA} (r : Sub H Hs) : Sub (h :: H) (HA.emp :: Hs) := sub_emp r
theorem sn {H : List HA} : Sub H [] := sub_nil
theorem turn_dup (m : Nat) {h : HA} (hF : Free h) (hm : H[m]? = some h) : Turn H (H ++ [h]) := turn_add fun w o hs => hF.at w o m _ (hs m h hm)
theorem nil_ro_any {es : Nat} : ∀ w o k, (ro (.slice none 0 0) es []).p w o k := fun _ _ _ => nil_ro es
theorem nil_nro_any {α : Type} {C : NC α} : ∀ w o k, (nro (.slice none 0 0) C []).p w o k := fun _ _ _ => nil_nro C
end Go.Abs
namespace Go.Abs
variable {E : Env} {k : List KI} {V : VF} {H : List HA}
theorem put_defers {a : Act} {d : Option Nat} {v : Value} : (a.put d v).defers = a.defers := by cases d <;> rfl
/-- the block that a ghost names -/
def blk (v : Value) : Nat := (Value.sbase v).block
end Go.Abs
namespace Go.Abs
set_option linter.unusedSimpArgs false
set_option linter.unusedVariables false
variable {E : Env} {k : List KI} {V : VF} {H : List HA}
section
variable {P : Program} {d : Option Nat} {ty : TypeId} {pos : String} {af : Array Edge} {g : Option (Nat × Bool)}
end
end Go.Abs
namespace Go.Abs
variable {E : Env} {k : List KI} {V : VF} {H : List HA}

/-! a round's ends -/
section
variable {S G : Type} {P : Program} {n l : Nat} {w0 : World} {o0 : Own} {Hs : G → List HA} {jumps : List Code} {j : Option Nat} {body : Code}
end

/-! the statement -/
end Go.Abs
namespace Go.Abs
section
variable {V : VF} {H : List HA} {P : Program} {d : Option Nat} {ty : TypeId} {pos : String} {af : Array Edge} {g : Option (Nat × Bool)}
theorem y_nilBox {x : Operand} {b off : Nat} (hx : V.ev x = some (boxP b off)) : OpY P ⟨d, .nilCheck x, ty, pos, af, g⟩ V H (boxP b off) := by
  intro ρ w o hf _ _
  simp [execOp, hf x _ hx, boxP]
end
end Go.Abs
namespace Go.Abs
end Go.Abs
namespace Go.Abs
section
variable {E : Env} {k : List KI} {V : VF} {H : List HA} {ops : Array Oper} {op : Oper} {listed : Array Bool} {fuel : Nat} {Hs : List HA}
theorem any_ty {v : Value} {i : Nat} (hi : ops[i]? = some op) (hw : Wants E.n ops V op) (hd : inB E.n op.dst = true) (h : OpY E.P op V H v)
    (hk : Sub H Hs ∧ AnyL E ops (listed.setIfInBounds i true) fuel k (V.put op.dst v) H Hs) : AnyO E ops listed fuel k V H Hs i :=
  any_t hi hw hd h.t fun _ _ ⟨e1, e2⟩ => by rw [e1, e2]; exact hk
end
end Go.Abs
namespace Go.Abs
theorem sub_lo {α β : Type} (f : α → β) (l : List α) (a : Nat) : ((l.map f).take ((l.length : Int)).toNat).drop a = (l.drop a).map f := by
  rw [Int.toNat_natCast, List.take_of_length_le (by simp), List.map_drop]
theorem sub_hi {α β : Type} (f : α → β) (l : List α) (b : Nat) : ((l.map f).take b).drop ((0 : Int).toNat) = (l.take b).map f := by
  simp [List.map_take]
end Go.Abs
namespace Go.Abs
/-- Option.bind under a name of its own (the unifier opens Option.bind too early) -/
def obind {α β : Type} (x : Option α) (f : α → Option β) : Option β := x.bind f
theorem obind_some {α β : Type} {x : Option α} {f : α → Option β} {b : β} (h : obind x f = some b) : ∃ a, x = some a ∧ f a = some b := bind_some h
end Go.Abs
namespace Go.Abs
variable {E : Env} {k : List KI} {V : VF} {H : List HA} {P : Program}
section
variable {d : Option Nat} {ty : TypeId} {pos : String} {af : Array Edge} {g : Option (Nat × Bool)}
end
section
variable {d : Option Nat} {ty : TypeId} {pos : String} {af : Array Edge} {g : Option (Nat × Bool)}
end
end Go.Abs
namespace Go.Abs
set_option linter.unusedSimpArgs false
variable {V : VF} {H : List HA}
section
variable {P : Program} {d : Option Nat} {ty : TypeId} {pos : String} {af : Array Edge} {g : Option (Nat × Bool)}
theorem allL_nil {α : Type} {p : α → Prop} : ∀ u ∈ ([] : List α), p u := fun u h => by cases h
theorem allL_cons {α : Type} {p : α → Prop} {a : α} {l : List α} (h : p a) (r : ∀ u ∈ l, p u) : ∀ u ∈ a :: l, p u := fun u hu => by
  rcases List.mem_cons.1 hu with rfl | hu
  · exact h
  · exact r u hu
theorem set_at {α : Type} {l : List α} {i : Nat} {x : α} (h : i < l.length) : (l.set i x)[i]? = some x := by simp [h]
theorem set_lt {α : Type} {l : List α} {i j : Nat} {x : α} (h : i < l.length) : i < (l.set j x).length := by simpa using h
end
theorem bi0m {V : VF} {α : Type} {F : α → List Value} {l : List α} : Bi V none (l.map F).length (l.length : Int) := .inl ⟨rfl, by rw [List.length_map]⟩
end Go.Abs
namespace Go.Abs
open Go.Sem
variable {P : Program} {V : VF} {H : List HA} {d : Option Nat} {ty : TypeId} {pos : String} {af : Array Edge} {g : Option (Nat × Bool)}
section
variable {T : Type} {F : T → List Value} {es : Nat}
end
/-! arrays of numbers compared -/
end Go.Abs
namespace Go.Abs
theorem wrap_u8_range (x : Int) : 0 ≤ IntKind.u8.wrap x ∧ IntKind.u8.wrap x < 256 := by
  simp [IntKind.wrap, IntKind.bits, IntKind.signed]
  omega
theorem u8_back (x : Int) : (((IntKind.u8.wrap x).toNat.toUInt8).toNat : Int) = IntKind.u8.wrap x := by
  have := wrap_u8_range x
  generalize IntKind.u8.wrap x = y at this
  have : (y.toNat.toUInt8).toNat = y.toNat := by
    show (UInt8.ofNat y.toNat).toNat = y.toNat
    rw [UInt8.toNat_ofNat']
    omega
  omega
theorem eB8_back (x : Int) : eB8 ((IntKind.u8.wrap x).toNat.toUInt8) = [.int .u8 (IntKind.u8.wrap x)] := by
  unfold eB8
  rw [u8_back]
end Go.Abs
namespace Go.Abs
variable {P : Program} {V : VF} {H : List HA} {d : Option Nat} {ty : TypeId} {pos : String} {af : Array Edge} {g : Option (Nat × Bool)}
end Go.Abs
namespace Go.Abs
theorem eB8_in {b : Int} (h : 0 ≤ b ∧ b ≤ 255) : eB8 (b.toNat.toUInt8) = [.int .u8 b] := by
  unfold eB8
  have : (b.toNat.toUInt8).toNat = b.toNat := by
    show (UInt8.ofNat b.toNat).toNat = b.toNat
    rw [UInt8.toNat_ofNat']
    omega
  rw [this, Int.toNat_of_nonneg h.1]
end Go.Abs
namespace Go.Abs
variable {E : Env} {k : List KI} {V : VF} {H : List HA}
def DoesP (P : Program) (s : Sem Next) (w : World) (D Dp : Value → World → Prop) : Prop :=
  match s.run P w with
  | .ok (.enter f args) w' => Calls P f args w' (fun e w'' => (∃ v, e = .returned v ∧ D v w'') ∨ ∃ v, e = .panicked [{ v := v, recovered := false }] ∧ Dp v w'')
  | _ => False
theorem DoesP.semAt {P : Program} {op : Oper} {ρ : Operand → Value} {w : World} {D Dp : Value → World → Prop} (r : Option Nat) (h : DoesP P (execOp ρ op) w D Dp) : op.semAt r ρ = execOp ρ op := by
  refine Oper.semAt_eq r ρ op fun c hc => ?_
  unfold DoesP execOp at h
  rw [hc] at h
  simp only [Sem.run_bind] at h
  cases hx : (resolve ρ c op.type).run P w with
  | halt x w' => simp [hx, Result.andThen] at h
  | ok d w' => simp [hx, Result.andThen] at h
end Go.Abs
namespace Go.Abs
variable {E : Env} {k : List KI} {V : VF} {H : List HA}
end Go.Abs
namespace Go.Abs
variable {E : Env} {k : List KI} {V : VF} {H : List HA}
end Go.Abs
namespace Go.Abs
set_option linter.unusedSimpArgs false
section
variable {V : VF} {H : List HA} {P : Program} {d : Option Nat} {ty : TypeId} {pos : String} {af : Array Edge} {g : Option (Nat × Bool)}
/-- a method's value: the receiver is held -/
theorem y_makeBound {f : FuncId} {fs : Array Operand} {vs : List Value} (h : fs.toList.map V.ev = vs.map some) : OpY P ⟨d, .makeFunc (.func f) fs #[], ty, pos, af, g⟩ V H (.func (.func f) vs.toArray #[]) := by
  intro ρ w o hf _ _
  have : fs.map ρ = vs.toArray := by
    apply Array.ext'
    rw [Array.toList_map]
    generalize fs.toList = l at h
    induction l generalizing vs with
    | nil => cases vs <;> simp_all
    | cons x r ih =>
      cases vs with
      | nil => simp at h
      | cons v vs =>
        simp only [List.map_cons, List.cons.injEq] at h ⊢
        exact ⟨hf _ _ h.1, ih h.2⟩
  simp [execOp, Instr.makeFunc, this]
end
end Go.Abs
namespace Go.Abs
variable {V : VF} {H : List HA}
theorem args_eq {V : VF} {ρ : Operand → Value} (hf : Fits V ρ) {xs : Array Operand} {vs : List Value} (hxs : xs.toList.map V.ev = vs.map some) : xs.map ρ = vs.toArray := by
  apply Array.ext'
  rw [Array.toList_map]
  generalize xs.toList = l at hxs
  induction l generalizing vs with
  | nil => cases vs <;> simp_all
  | cons x r ih =>
    cases vs with
    | nil => simp at hxs
    | cons v vs =>
      simp only [List.map_cons, List.cons.injEq] at hxs ⊢
      exact ⟨hf _ _ hxs.1, ih hxs.2⟩
theorem const_ev (V : VF) (bs : List Value) : (bs.map Operand.const).map V.ev = bs.map some := by
  induction bs with
  | nil => rfl
  | cons b bs ih => simp only [List.map_cons, ih]; rfl
section
variable {P : Program} {d : Option Nat} {ty : TypeId} {pos : String} {af : Array Edge} {g : Option (Nat × Bool)} {fx : Operand} {f : FuncId} {xs : Array Operand} {Ts : Array TypeId} {bs vs cs : List Value} {Hc : List HA}
theorem bound_run {ρ : Operand → Value} {w : World} (hf : Fits V ρ) (hfx : V.ev fx = some (.func (.func f) bs.toArray cs.toArray)) (hcall : ∀ args w, (callFunc f args).run P w = .ok (.enter f args) w) (hxs : xs.toList.map V.ev = vs.map some) :
    (execOp ρ ⟨d, .call ⟨.value fx, xs, Ts⟩, ty, pos, af, g⟩).run P w = (execOp ρ ⟨d, .call ⟨.value (.const (.func (.func f) #[] cs.toArray)), ((bs.map Operand.const) ++ xs.toList).toArray, Ts⟩, ty, pos, af, g⟩).run P w := by
  have h1 := args_eq hf hxs
  have h2 : (((bs.map Operand.const) ++ xs.toList).toArray).map ρ = (bs ++ vs).toArray := args_eq hf (by
    rw [show (((bs.map Operand.const) ++ xs.toList).toArray).toList = (bs.map Operand.const) ++ xs.toList from rfl, List.map_append, const_ev, hxs, List.map_append])
  have h3 : ρ (.const (.func (.func f) #[] cs.toArray)) = .func (.func f) #[] cs.toArray := hf _ _ rfl
  simp only [execOp, resolve, hf fx _ hfx, h3, h1, h2]
  simp [invoke, Deferred.ofValue, hcall]
theorem t_callxb {post : Post} (sh : List (Nat × Nat)) (hfx : V.ev fx = some (.func (.func f) bs.toArray cs.toArray)) (hcall : ∀ args w, (callFunc f args).run P w = .ok (.enter f args) w)
    (hxs : xs.toList.map V.ev = vs.map some) (hc : Meets P f ((bs ++ vs) ++ cs) Hc post) (hsh : ShowsX H sh Hc) (hok : okX sh = true)
    (hst : (sh.all fun s => s.2 != 1) = true ∨ ∀ v G, post v G → ∀ g ∈ G, g.Strict) :
    OpT P ⟨d, .call ⟨.value fx, xs, Ts⟩, ty, pos, af, g⟩ V H (fun v' H' => ∃ G, post v' G ∧ H' = lentOut sh H ++ G) := by
  have h := t_callx (d := d) (ty := ty) (pos := pos) (af := af) (g := g) (V := V) (H := H) (Ts := Ts) (fx := .const (.func (.func f) #[] cs.toArray)) (xs := ((bs.map Operand.const) ++ xs.toList).toArray) (vs := bs ++ vs) sh rfl hcall (by
    rw [show (((bs.map Operand.const) ++ xs.toList).toArray).toList = (bs.map Operand.const) ++ xs.toList from rfl, List.map_append, const_ev, hxs, List.map_append]) hc hsh hok hst
  intro ρ w o hf hbd hs
  have h2 := h ρ w o hf hbd hs
  unfold Does at h2 ⊢
  rw [bound_run hf hfx hcall hxs]
  exact h2
end
end Go.Abs
namespace Go.Abs
variable {V : VF} {H : List HA}
end Go.Abs
namespace Go.Abs
section
variable {V : VF} {H : List HA} {P : Program} {d : Option Nat} {ty : TypeId} {pos : String} {af : Array Edge} {g : Option (Nat × Bool)}
end
theorem cond2 {α : Type} {p : Prop} [Decidable p] {a b : Option α} {r : α} (h : cond (decide p) a b = some r) : (p ∧ a = some r) ∨ (¬ p ∧ b = some r) := by
  by_cases hp : p
  · rw [decide_eq_true hp] at h; exact .inl ⟨hp, h⟩
  · rw [decide_eq_false hp] at h; exact .inr ⟨hp, h⟩
theorem mget_at {κ β : Type} [DecidableEq κ] {l : List (κ × β)} {k k' : κ} {d v : β} (he : k = k') (h : (mget l k').getD d = v) : (mget l k).getD d = v := by rw [he]; exact h
theorem mget_no {κ β : Type} [DecidableEq κ] {k : κ} {d : β} : ∀ {l : List (κ × β)}, (∀ p ∈ l, ¬ k = p.1) → (mget l k).getD d = d
  | [], _ => rfl
  | p :: l, h => by
    rw [mget, if_neg (fun hq => h p (List.mem_cons_self ..) hq.symm)]
    exact mget_no fun q hq => h q (List.mem_cons_of_mem _ hq)
end Go.Abs
namespace Go.Abs
section
variable {V : VF} {H : List HA} {P : Program} {d : Option Nat} {ty : TypeId} {pos : String} {af : Array Edge} {g : Option (Nat × Bool)}
end
end Go.Abs
namespace Go.Abs
set_option linter.unusedSimpArgs false
variable {E : Env} {k : List KI} {V : VF} {H : List HA}
section
variable {P : Program} {d : Option Nat} {ty : TypeId} {pos : String} {af : Array Edge} {g : Option (Nat × Bool)} {κ β : Type} {K : κ → Value} {G : β → Value}
end
end Go.Abs
namespace Go.Abs
set_option linter.unusedVariables false
/-- how a tree's node is laid into cells: 'fixed', what is behind it of other types; 'kids', its slices of nodes -/
structure TC (α : Type) where
  G : Type
  es : Nat
  F : α → G → List Value
  fixed : α → G → List HA
  kids : α → G → List (Value × List α)
  free : ∀ x g, ∀ h ∈ fixed x g, Free h
  ok : ∀ x g w o k, (∀ h ∈ fixed x g, h.p w o k) → (∀ q ∈ kids x g, ∃ a n c, q.1 = .slice a n c) → (F x g).length = es ∧ ∀ u ∈ F x g, u.oneCell' = true
variable {α : Type}
/-- a slice of nodes, d levels deep at most -/
def TC.P (T : TC α) : Nat → Value → List α → World → Own → Nat → Prop
  | 0, v, l, w, o, k => l = [] ∧ SliceIs w (fun b => o b = .no) v T.es []
  | d + 1, v, l, w, o, k => ∃ lg : List (α × T.G), l = lg.map (·.1) ∧ SliceIs w (fun b => o b = .no) v T.es (lg.map fun p => T.F p.1 p.2) ∧ ∀ p ∈ lg, HsP (T.fixed p.1 p.2) w o k ∧ ∀ q ∈ T.kids p.1 p.2, TC.P T d q.1 q.2 w o k
theorem TC.P_slice {T : TC α} : ∀ {d : Nat} {v : Value} {l : List α} {w : World} {o : Own} {k : Nat}, T.P d v l w o k → ∃ a n c, v = .slice a n c
  | 0, v, l, w, o, k, h => by obtain ⟨a, cap, e, _⟩ := h.2; exact ⟨_, _, _, e⟩
  | d + 1, v, l, w, o, k, h => by obtain ⟨lg, _, ⟨a, cap, e, _⟩, _⟩ := h; exact ⟨_, _, _, e⟩
theorem TC.P_keep {T : TC α} {w w' : World} {o o' : Own} {k k' : Nat} (hs : w.heap.size ≤ w'.heap.size) (h1 : ∀ b, b < w.heap.size → o b = .mine k → o' b = .mine k' ∧ w'.heap[b]? = w.heap[b]?)
    (h2 : ∀ b, b < w.heap.size → o b = .no → o' b = .no ∧ w'.heap[b]? = w.heap[b]?) : ∀ {d : Nat} {v : Value} {l : List α}, T.P d v l w o k → T.P d v l w' o' k'
  | 0, v, l, h => ⟨h.1, h.2.keep hs h2⟩
  | d + 1, v, l, h => by
    obtain ⟨lg, e, a, b⟩ := h
    exact ⟨lg, e, a.keep hs h2, fun p hp => ⟨(b p hp).1.keep hs h1 h2, fun q hq => TC.P_keep hs h1 h2 ((b p hp).2 q hq)⟩⟩
theorem TC.P_free {T : TC α} {w : World} {o o' : Own} {k k' : Nat} (ho : ∀ b, b < w.heap.size → o b = .no → o' b = .no) : ∀ {d : Nat} {v : Value} {l : List α}, T.P d v l w o k → T.P d v l w o' k'
  | 0, v, l, h => ⟨h.1, h.2.keep (Nat.le_refl _) (fun b hlt hb => ⟨ho b hlt hb, rfl⟩)⟩
  | d + 1, v, l, h => by
    obtain ⟨lg, e, a, b⟩ := h
    exact ⟨lg, e, a.keep (Nat.le_refl _) (fun b hlt hb => ⟨ho b hlt hb, rfl⟩), fun p hp => ⟨(b p hp).1.free (T.free _ _) ho, fun q hq => TC.P_free ho ((b p hp).2 q hq)⟩⟩
theorem TC.P_more {T : TC α} {w : World} {o : Own} {k : Nat} : ∀ {d : Nat} {v : Value} {l : List α}, T.P d v l w o k → T.P (d + 1) v l w o k
  | 0, v, l, h => by obtain ⟨rfl, h⟩ := h; exact ⟨[], rfl, h, fun p hp => by simp at hp⟩
  | d + 1, v, l, h => by
    obtain ⟨lg, e, a, b⟩ := h
    exact ⟨lg, e, a, fun p hp => ⟨(b p hp).1, fun q hq => TC.P_more ((b p hp).2 q hq)⟩⟩
theorem TC.P_le {T : TC α} {w : World} {o : Own} {k : Nat} {d d' : Nat} (h : d ≤ d') {v : Value} {l : List α} (hp : T.P d v l w o k) : T.P d' v l w o k := by
  obtain ⟨n, rfl⟩ : ∃ n, d' = d + n := ⟨d' - d, by omega⟩
  clear h
  induction n with
  | zero => exact hp
  | succ n ih => exact TC.P_more ih
/-- a slice of nodes that nobody writes -/
def tro (v : Value) (T : TC α) (l : List α) : HA := ⟨fun w o k => ∃ d, T.P d v l w o k, fun hs h1 h2 ⟨d, h⟩ => ⟨d, TC.P_keep hs h1 h2 h⟩⟩
theorem free_tro {v : Value} {T : TC α} {l : List α} : Free (tro v T l) := fun w o o' k k' ho ⟨d, h⟩ => ⟨d, TC.P_free ho h⟩
/-- the nodes, as elements with slices in them -/
def TC.nc (T : TC α) : NC α where
  G := T.G
  es := T.es
  F := T.F
  S := fun x g => T.fixed x g ++ (T.kids x g).map fun q => tro q.1 T q.2
  free := by
    intro x g h hh
    rcases List.mem_append.1 hh with hh | hh
    · exact T.free x g h hh
    · obtain ⟨q, _, rfl⟩ := List.mem_map.1 hh; exact free_tro
  ok := by
    intro x g w o k hh
    refine T.ok x g w o k (fun h hm => hh h (List.mem_append_left _ hm)) (fun q hq => ?_)
    obtain ⟨d, hd⟩ := hh _ (List.mem_append_right _ (List.mem_map.2 ⟨q, hq, rfl⟩))
    exact TC.P_slice hd
theorem tro_nro {v : Value} {T : TC α} {l : List α} {w : World} {o : Own} {k : Nat} (h : (tro v T l).p w o k) : (nro v T.nc l).p w o k := by
  obtain ⟨d, h⟩ := h
  cases d with
  | zero =>
    obtain ⟨rfl, h⟩ := h
    exact ⟨⟨[], rfl, h, fun p hp => by simp at hp⟩, fun q => by cases q⟩
  | succ d =>
    obtain ⟨lg, e, a, b⟩ := h
    refine ⟨⟨lg, e, a, fun p hp h hh => ?_⟩, fun q => by cases q⟩
    rcases List.mem_append.1 hh with hh | hh
    · exact (b p hp).1 h hh
    · obtain ⟨q, hq, rfl⟩ := List.mem_map.1 hh
      exact ⟨d, (b p hp).2 q hq⟩
theorem bound_all {β : Type} {Q : Nat → β → Prop} (hm : ∀ d d' x, d ≤ d' → Q d x → Q d' x) : ∀ l : List β, (∀ x ∈ l, ∃ d, Q d x) → ∃ d, ∀ x ∈ l, Q d x
  | [], _ => ⟨0, fun x hx => by simp at hx⟩
  | x :: l, h => by
    obtain ⟨d1, h1⟩ := h x (List.mem_cons_self ..)
    obtain ⟨d2, h2⟩ := bound_all hm l (fun y hy => h y (List.mem_cons_of_mem _ hy))
    refine ⟨max d1 d2, fun y hy => ?_⟩
    rcases List.mem_cons.1 hy with rfl | hy
    · exact hm _ _ _ (Nat.le_max_left _ _) h1
    · exact hm _ _ _ (Nat.le_max_right _ _) (h2 y hy)
theorem nro_tro {v : Value} {T : TC α} {l : List α} {w : World} {o : Own} {k : Nat} (h : (nro v T.nc l).p w o k) : (tro v T l).p w o k := by
  obtain ⟨⟨lg, e, a, b⟩, _⟩ := h
  obtain ⟨d, hd⟩ := bound_all (Q := fun d (p : α × T.G) => ∀ q ∈ T.kids p.1 p.2, T.P d q.1 q.2 w o k) (fun d d' p hl h q hq => TC.P_le hl (h q hq)) lg (fun p hp => by
    obtain ⟨d, hd⟩ := bound_all (Q := fun d (q : Value × List α) => T.P d q.1 q.2 w o k) (fun d d' q hl h => TC.P_le hl h) (T.kids p.1 p.2) (fun q hq =>
      b p hp _ (List.mem_append_right _ (List.mem_map.2 ⟨q, hq, rfl⟩)))
    exact ⟨d, hd⟩)
  exact ⟨d + 1, lg, e, a, fun p hp => ⟨fun h hh => b p hp h (List.mem_append_left _ hh), hd p hp⟩⟩
/-- they are the same assertion -/
theorem tro_eq (v : Value) (T : TC α) (l : List α) : tro v T l = nro v T.nc l := by
  have h : (tro v T l).p = (nro v T.nc l).p := by
    funext w o k
    exact propext ⟨tro_nro, nro_tro⟩
  cases hx : tro v T l
  cases hy : nro v T.nc l
  rw [hx, hy] at h
  simp only at h
  subst h
  rfl
end Go.Abs
namespace Go.Abs
variable {α : Type} {T : TC α} {H : List HA} {v : Value} {l : List α}
theorem TC.S_eq (x : α) (g : T.G) : T.nc.S x g = T.fixed x g ++ (T.kids x g).map fun q => nro q.1 T.nc q.2 := by
  show (T.fixed x g ++ (T.kids x g).map fun q => tro q.1 T q.2) = _
  congr 1
  exact List.map_congr_left fun q _ => tro_eq q.1 T q.2
theorem exAtT {i : Nat} {x : α} (m : Nat) (hm : H[m]? = some (nro v T.nc l)) (hx : l[i]? = some x) : ExT H (fun g : T.G => atc v (i * T.es) (T.F x g) :: (T.fixed x g ++ (T.kids x g).map fun q => nro q.1 T.nc q.2)) := by
  have h : ExT H (fun g : T.G => atc v (i * T.es) (T.F x g) :: T.nc.S x g) := exAt (C := T.nc) m hm hx
  have e : (fun g : T.G => atc v (i * T.es) (T.F x g) :: T.nc.S x g) = (fun g : T.G => atc v (i * T.es) (T.F x g) :: (T.fixed x g ++ (T.kids x g).map fun q => nro q.1 T.nc q.2)) := by
    funext g; rw [TC.S_eq]
  rw [e] at h
  exact h
end Go.Abs
namespace Go.Abs
theorem one_slice {v : Value} (h : ∃ a n c, v = .slice a n c) : v.oneCell' = true := by obtain ⟨a, n, c, rfl⟩ := h; rfl
end Go.Abs
namespace Go.Abs
variable {α : Type} {T : TC α} {H : List HA} {v : Value} {l : List α} {V : VF}
theorem has_tree {x : α} {g : T.G} (h : Has H (T.fixed x g ++ (T.kids x g).map fun q => nro q.1 T.nc q.2)) : Has H (T.nc.S x g) := by rw [TC.S_eq]; exact h
end Go.Abs
namespace Go.Abs
set_option linter.unusedSimpArgs false
variable {V : VF} {H : List HA} {P : Program} {d : Option Nat} {ty : TypeId} {pos : String} {af : Array Edge} {g : Option (Nat × Bool)}
theorem zeroCells_one (z0 : Value) (n : Nat) : Builtin.zeroCells #[z0] n = (List.replicate n [z0]).flatten.toArray := by
  apply Array.ext'
  simp only [Builtin.zeroCells, Array.toList_map]
  have h1 : (List.replicate n [z0]).flatten = List.replicate n z0 := by simp
  rw [h1, List.toList_toArray]
  rw [List.eq_replicate_iff]
  refine ⟨by simp, ?_⟩
  intro b hb
  obtain ⟨i, _, rfl⟩ := List.mem_map.1 hb
  have : i % (#[z0] : Array Value).size = 0 := Nat.mod_one i
  rw [this]
  rfl
theorem t_growZ {Ts : Array TypeId} {T T2 el : TypeId} {kd : IntKind} {x y : Operand} {z z0 : Value} {ti : TypeInfo} {n : Int}
    (hT : Ts[0]? = some T) (hu : ∀ w, (underlying T).run P w = .ok (.slice el) w) (hT2 : Ts[1]? = some T2) (hu2 : ∀ w, (underlying T2).run P w = .ok (.int kd) w)
    (hti : ∀ w, (typeInfo el).run P w = .ok ti w) (hes : ti.size = 1) (hby : ti.bytes = 1) (h0 : ∀ w, (zeroValue el).run P w = .ok z w) (hz : z.cells = #[z0])
    (hx : V.ev x = some (.slice none 0 0)) (hy : V.ev y = some (.int .i64 n)) (hn0 : 0 ≤ n) (hn1 : n ≤ 4294967296) :
    OpT P ⟨d, .call ⟨.builtin .append, #[x, y], Ts⟩, ty, pos, af, g⟩ V H (fun v' H' => H' = H ++ [row v' 1 (List.replicate n.toNat [z0])]) := by
  intro ρ w o hf hbd hs
  have hsz : ∀ w, (sizeOf el).run P w = .ok 1 w := fun w => by simp [sizeOf, hti, hes]
  have hw : IntKind.i64.wrap n = n := wrap_i64 (by omega) (by omega)
  obtain ⟨k, rfl⟩ : ∃ k : Nat, n = k := ⟨n.toNat, by omega⟩
  simp only [Int.toNat_natCast]
  have hlt : ¬ (k : Int) < 0 := by omega
  have hbig0 : ¬ (281474976710656 : Int) < (k : Int) := by omega
  by_cases hk : k = 0
  · subst hk
    have hrun : (execOp ρ ⟨d, .call ⟨.builtin .append, #[x, y], Ts⟩, ty, pos, af, g⟩).run P w = .ok (.value (.slice none 0 0)) w := by
      simp [execOp, resolve, invoke, builtin, hf x _ hx, hf y _ hy, Builtin.append_, hT, hu, hT2, hu2, hsz, asInt, asIntOf, hti, hby, wrap_i64]
    unfold Does
    rw [hrun]
    obtain ⟨o', h1, h2, h3⟩ := (turn_add (H := H) (g := row (.slice none 0 0) 1 []) (fun _ _ _ => .inl ⟨⟨none, rfl⟩, rfl⟩)) w o hbd hs
    exact ⟨_, o', rfl, h1, h2, h3⟩
  · have hlen : k ≤ maxLen := by unfold maxLen; omega
    have hq : (Question.appendCap k 0 el).forced = false := rfl
    obtain ⟨c', hc'⟩ : ∃ c', c' = (Question.appendCap k 0 el).cut (w.tape w.drawn (Question.appendCap k 0 el)) := ⟨_, rfl⟩
    have hc1 : k ≤ c' := by rw [hc']; simp only [Question.cut]; omega
    have hc2 : c' ≤ maxLen := by
      rw [hc']; simp only [Question.cut]; unfold maxLen at hlen ⊢
      have : w.tape w.drawn (Question.appendCap k 0 el) % (2 ^ 63 - k) < 2 ^ 63 - k := Nat.mod_lt _ (by omega)
      omega
    have hcap : Builtin.nextslicecap k 0 = k := by
      unfold Builtin.nextslicecap
      rw [if_pos (by omega)]
    have hnw := nw_push w (.cells (([] : List (List Value)).flatten.toArray ++ (List.replicate k [z0]).flatten.toArray ++ Builtin.zeroCells z.cells (c' - (([] : List (List Value)).length + (List.replicate k [z0]).length))) el) (w.drawn + 1)
    have hrun : (execOp ρ ⟨d, .call ⟨.builtin .append, #[x, y], Ts⟩, ty, pos, af, g⟩).run P w = .ok (.value (.slice (some ⟨w.heap.size, 0, none⟩) k c'))
        (w.drew.alloc (.cells (([] : List (List Value)).flatten.toArray ++ (List.replicate k [z0]).flatten.toArray ++ Builtin.zeroCells z.cells (c' - (([] : List (List Value)).length + (List.replicate k [z0]).length))) el)) := by
      have e1 : Builtin.zeroCells z.cells k = (List.replicate k [z0]).flatten.toArray := by rw [hz]; exact zeroCells_one z0 k
      have hneg : ¬ (9223372036854775807 : Int) < (k : Int) := by omega
      simp [execOp, resolve, invoke, builtin, hf x _ hx, hf y _ hy, Builtin.append_, hT, hu, hT2, hu2, hsz, asInt, asIntOf, hti, hby, hw, hlt, hbig0, hk, hcap, hq, ← hc', h0, e1, newRow, Builtin.firstCells, IntKind.max]
      have hmx : ¬ ((if IntKind.i64.signed = true then 2 ^ (IntKind.i64.bits - 1) - 1 else 2 ^ IntKind.i64.bits - 1 : Int) < (k : Int)) := by
        show ¬ (9223372036854775807 : Int) < (k : Int)
        omega
      have hb2 : ¬ 281474976710656 < k := by omega
      rw [if_neg hmx]
      simp [hb2, ← hc']
    unfold Does
    rw [hrun]
    have hrow := row_append_new (w := w) (M := fun b => addOwn o w.heap.size H.length b = .mine H.length) (es := 1) (c' := c') (T := el) (z := z.cells) (cells := []) (new := List.replicate k [z0]) (by rw [hz]; rfl) hnw (by simp [addOwn]) (by simpa using hc1) hc2 (by simp) (by
      intro c hc
      rw [List.eq_of_mem_replicate hc]; rfl)
    have hrow2 : RowIs (w.drew.alloc (.cells (([] : List (List Value)).flatten.toArray ++ (List.replicate k [z0]).flatten.toArray ++ Builtin.zeroCells z.cells (c' - (([] : List (List Value)).length + (List.replicate k [z0]).length))) el)) (fun b => addOwn o w.heap.size H.length b = .mine H.length) (.slice (some ⟨w.heap.size, 0, none⟩) k c') 1 (List.replicate k [z0]) := by
      have hl : (List.replicate k [z0]).length = k := List.length_replicate
      have := hrow
      rw [List.length_nil, Nat.zero_add, hl, List.nil_append] at this
      rw [List.length_nil, Nat.zero_add, hl]
      exact this
    obtain ⟨h1, h2, h3⟩ := sats_new (g := row (.slice (some ⟨w.heap.size, 0, none⟩) k c') 1 (List.replicate k [z0])) hbd hnw hs hrow2
    exact ⟨_, _, rfl, h1, h2, h3⟩
theorem y_slice_nil {T el : TypeId} {x : Operand} {lo hi : Option Operand} {es : Nat} (hu : ∀ w, (underlying T).run P w = .ok (.slice el) w) (hz : ∀ w, (sizeOf el).run P w = .ok es w)
    (hx : V.ev x = some (.slice none 0 0)) (hl : Bi V lo 0 0) (hr : Bi V hi 0 0) : OpY P ⟨d, .slice T x lo hi none, ty, pos, af, g⟩ V H (.slice none 0 0) := by
  intro ρ w o hf hbd hs
  have hrun := run_slice (P := P) (T := T) (w := w) (a := none) (mx := none) (n := 0) (cap := 0) (l := 0) (r := 0) hu hz hf (hl.bd (by omega)) (hr.bd (by omega)) rfl (by omega) (by omega) (by omega)
  simp only [Option.map_none] at hrun
  simp [execOp, hf x _ hx, hrun]
theorem y_cap_nil {Ts : Array TypeId} {T el : TypeId} {x : Operand} (hT : Ts[0]? = some T) (hu : ∀ w, (underlying T).run P w = .ok (.slice el) w) (hx : V.ev x = some (.slice none 0 0)) :
    OpY P ⟨d, .call ⟨.builtin .cap, #[x], Ts⟩, ty, pos, af, g⟩ V H (.int .i64 0) := by
  intro ρ w o hf hbd hs
  simp [execOp, resolve, invoke, builtin, hf x _ hx, Builtin.cap_, hT, hu, goInt]
end Go.Abs
namespace Go.Abs
set_option linter.unusedSimpArgs false
set_option linter.unusedVariables false
variable {V : VF} {H : List HA}
section
variable {P : Program} {d : Option Nat} {ty : TypeId} {pos : String} {af : Array Edge} {g : Option (Nat × Bool)} {κ β : Type} [DecidableEq κ] {K : κ → Value} {C : NC β}
def NC.agg (C : NC β) (q : β × C.G) : Value := .agg (C.F q.1 q.2).toArray
def nmap (r : Nat) (K : κ → Value) (C : NC β) (l : List (κ × β)) : HA :=
  ⟨fun w o k => ∃ lg : List (κ × β × C.G), l = lg.map (fun p => (p.1, p.2.1)) ∧ (mapis r (mcells K C.agg lg)).p w o k ∧ ∀ p ∈ lg, HsP (C.S p.2.1 p.2.2) w o k,
   fun hs h1 h2 ⟨lg, e, a, b⟩ => ⟨lg, e, (mapis r (mcells K C.agg lg)).keep hs h1 h2 a, fun p hp => (b p hp).keep hs h1 h2⟩⟩
omit [DecidableEq κ] in
theorem turn_nmap0 {r : Nat} (m : Nat) (hm : H[m]? = some (mapis r [])) : Turn H (H.set m (nmap r K C [])) := fun w o hb hs =>
  ⟨o, hb, Tr.refl w o, sats_upd (Nat.le_refl _) (fun _ _ _ => ⟨rfl, rfl⟩) hs ⟨[], rfl, hs m _ hm, fun p hp => by simp at hp⟩⟩
theorem mget_lg {γ : Type} : ∀ (lg : List (κ × β × γ)) (k : κ), mget (lg.map fun p => (p.1, p.2.1)) k = (mget lg k).map (·.1)
  | [], _ => rfl
  | p :: r, k => by
    simp only [List.map_cons, mget]
    split
    · rfl
    · exact mget_lg r k
theorem mget_mem {γ : Type} : ∀ (lg : List (κ × γ)) (k : κ) (x : γ), mget lg k = some x → ∃ k', (k', x) ∈ lg
  | p :: r, k, x, h => by
    simp only [mget] at h
    split at h
    · cases h; exact ⟨p.1, List.mem_cons_self ..⟩
    · obtain ⟨k', hk⟩ := mget_mem r k x h
      exact ⟨k', List.mem_cons_of_mem _ hk⟩
theorem mput_lg {γ : Type} : ∀ (lg : List (κ × β × γ)) (k : κ) (q : β × γ), (mput lg k q).map (fun p => (p.1, p.2.1)) = mput (lg.map fun p => (p.1, p.2.1)) k q.1
  | [], _, _ => rfl
  | p :: r, k, q => by
    simp only [List.map_cons, mput]
    split
    · rfl
    · simp [mput_lg r k q]
theorem mput_mem {γ : Type} : ∀ (lg : List (κ × γ)) (k : κ) (q : γ) (p : κ × γ), p ∈ mput lg k q → p = (k, q) ∨ p ∈ lg
  | [], k, q, p, h => by simp [mput] at h; exact .inl h
  | p0 :: r, k, q, p, h => by
    simp only [mput] at h
    split at h
    · rcases List.mem_cons.1 h with h | h
      · exact .inl h
      · exact .inr (List.mem_cons_of_mem _ h)
    · rcases List.mem_cons.1 h with h | h
      · exact .inr (h ▸ List.mem_cons_self ..)
      · rcases mput_mem r k q p h with h | h
        · exact .inl h
        · exact .inr (List.mem_cons_of_mem _ h)
theorem hsp_tr {L : List HA} (hL : ∀ h ∈ L, Free h) {w w' : World} {o o' : Own} {k k' : Nat} (ht : Tr w o w' o') (h : HsP L w o k) : HsP L w' o' k' := fun x hx => by
  have h0 : x.p w (fun b => match o b with | .mine _ => .far | y => y) k := hL x hx w o _ k k (fun b _ hb => by simp [hb]) (h x hx)
  refine x.keep ht.size (fun b hlt hb => ?_) (fun b hlt hb => ht.no b hlt ?_) h0
  · cases hob : o b <;> simp [hob] at hb
  · cases hob : o b <;> simp [hob] at hb ⊢
theorem has_all {L : List HA} (h : Has [] L) : ∀ x ∈ L, ∀ w o k, x.p w o k := fun x hx => (h x hx).resolve_right (by simp)
/-- a look into such a map: what is behind the value comes along -/
theorem t_nlookup2 {T kt el : TypeId} {ds : TypeDesc} {x y : Operand} {r : Nat} {l : List (κ × β)} {k : κ} {z0 q : β} {g0 : C.G} (m : Nat) (hK : KeyOk ds K) (hT : ∀ w, (underlying T).run P w = .ok (.map kt el) w) (hk : ∀ w, (underlying kt).run P w = .ok ds w)
    (hz : ∀ w, (zeroValue el).run P w = .ok (C.agg (z0, g0)) w) (h0 : ∀ h ∈ C.S z0 g0, ∀ w o k, h.p w o k) (hx : V.ev x = some (mapV r)) (hy : V.ev y = some (K k)) (hm : H[m]? = some (nmap r K C l)) (hq : some ((mget l k).getD z0) = some q) :
    OpT P ⟨d, .lookup T x y true, ty, pos, af, g⟩ V H (fun v' H' => ∃ gg, v' = .tuple #[.agg (C.F q gg).toArray, .bool (mget l k).isSome] ∧ H' = H ++ C.S q gg) := by
  intro ρ w o hf hb hs
  obtain ⟨lg, e, hmi, hS⟩ := hs m _ hm
  have hmi2 : Sats w o (H.set m (mapis r (mcells K C.agg lg))) := sats_upd (Nat.le_refl _) (fun _ _ _ => ⟨rfl, rfl⟩) hs hmi
  have hlt : m < H.length := (List.getElem?_eq_some_iff.1 hm).1
  have hrun := y_lookup2 (d := d) (ty := ty) (pos := pos) (af := af) (g := g) (V := V) (H := H.set m (mapis r (mcells K C.agg lg))) (P := P) (K := K) (G := C.agg) (l := lg) (d0 := (z0, g0)) m hK hT hk hz hx hy (by simp [hlt]) ρ w o hf hb hmi2
  unfold Does
  rw [hrun]
  have hg := mget_lg lg k
  rw [← e] at hg
  obtain rfl := Option.some.inj hq
  cases hc : mget lg k with
  | none =>
    rw [hc] at hg
    have hl : mget l k = none := hg
    refine ⟨_, o, ⟨g0, ?_, rfl⟩, hb, Tr.refl w o, ?_⟩
    · rw [hl]; rfl
    · rw [hl]
      exact sats_append (C.free _ _) hs m (fun h hh => h0 h hh w o m)
  | some p =>
    rw [hc] at hg
    have hl : mget l k = some p.1 := hg
    obtain ⟨k', hk'⟩ := mget_mem lg k p hc
    refine ⟨_, o, ⟨p.2, ?_, rfl⟩, hb, Tr.refl w o, ?_⟩
    · rw [hl]; rfl
    · rw [hl]
      exact sats_append (C.free _ _) hs m (hS _ hk')
/-- a look into such a map: what is behind the value comes along -/
theorem t_nlookup {T kt el : TypeId} {ds : TypeDesc} {x y : Operand} {r : Nat} {l : List (κ × β)} {k : κ} {z0 q : β} {g0 : C.G} (m : Nat) (hK : KeyOk ds K) (hT : ∀ w, (underlying T).run P w = .ok (.map kt el) w) (hk : ∀ w, (underlying kt).run P w = .ok ds w)
    (hz : ∀ w, (zeroValue el).run P w = .ok (C.agg (z0, g0)) w) (h0 : ∀ h ∈ C.S z0 g0, ∀ w o k, h.p w o k) (hx : V.ev x = some (mapV r)) (hy : V.ev y = some (K k)) (hm : H[m]? = some (nmap r K C l)) (hq : some ((mget l k).getD z0) = some q) :
    OpT P ⟨d, .lookup T x y false, ty, pos, af, g⟩ V H (fun v' H' => ∃ gg, v' = .agg (C.F q gg).toArray ∧ H' = H ++ C.S q gg) := by
  intro ρ w o hf hb hs
  obtain ⟨lg, e, hmi, hS⟩ := hs m _ hm
  have hmi2 : Sats w o (H.set m (mapis r (mcells K C.agg lg))) := sats_upd (Nat.le_refl _) (fun _ _ _ => ⟨rfl, rfl⟩) hs hmi
  have hlt : m < H.length := (List.getElem?_eq_some_iff.1 hm).1
  have hrun := y_lookup (d := d) (ty := ty) (pos := pos) (af := af) (g := g) (V := V) (H := H.set m (mapis r (mcells K C.agg lg))) (P := P) (K := K) (G := C.agg) (l := lg) (d0 := (z0, g0)) m hK hT hk hz hx hy (by simp [hlt]) ρ w o hf hb hmi2
  unfold Does
  rw [hrun]
  have hg := mget_lg lg k
  rw [← e] at hg
  obtain rfl := Option.some.inj hq
  cases hc : mget lg k with
  | none =>
    rw [hc] at hg
    have hl : mget l k = none := hg
    refine ⟨_, o, ⟨g0, ?_, rfl⟩, hb, Tr.refl w o, ?_⟩
    · rw [hl]; rfl
    · rw [hl]
      exact sats_append (C.free _ _) hs m (fun h hh => h0 h hh w o m)
  | some p =>
    rw [hc] at hg
    have hl : mget l k = some p.1 := hg
    obtain ⟨k', hk'⟩ := mget_mem lg k p hc
    refine ⟨_, o, ⟨p.2, ?_, rfl⟩, hb, Tr.refl w o, ?_⟩
    · rw [hl]; rfl
    · rw [hl]
      exact sats_append (C.free _ _) hs m (hS _ hk')
/-- a store into such a map -/
theorem t_nput {T kt el : TypeId} {ds : TypeDesc} {x y z : Operand} {r : Nat} {l : List (κ × β)} {k : κ} {v : β} (gv : C.G) (m : Nat) (hK : KeyOk ds K) (hT : ∀ w, (underlying T).run P w = .ok (.map kt el) w) (hk : ∀ w, (underlying kt).run P w = .ok ds w)
    (hx : V.ev x = some (mapV r)) (hy : V.ev y = some (K k)) (hz : V.ev z = some (.agg (C.F v gv).toArray)) (hm : H[m]? = some (nmap r K C l)) (hh : Has H (C.S v gv)) (ins : Bool) :
    OpT P ⟨d, if ins then .insert T x y z else .mapUpdate T x y z, ty, pos, af, g⟩ V H (fun v' H' => v' = undef ∧ H' = H.set m (nmap r K C (mput l k v))) := by
  intro ρ w o hf hb hs
  obtain ⟨lg, e, hmi, hS⟩ := hs m _ hm
  have hmi2 : Sats w o (H.set m (mapis r (mcells K C.agg lg))) := sats_upd (Nat.le_refl _) (fun _ _ _ => ⟨rfl, rfl⟩) hs hmi
  have hlt : m < H.length := (List.getElem?_eq_some_iff.1 hm).1
  have h1 := t_mapUpdate (d := d) (ty := ty) (pos := pos) (af := af) (g := g) (V := V) (H := H.set m (mapis r (mcells K C.agg lg))) (P := P) (K := K) (G := C.agg) (l := lg) (v := (v, gv)) m hK hT hk hx hy hz (by simp [hlt]) ins ρ w o hf hb hmi2
  have hhs := hh.sat (C.free _ _) hs m
  refine h1.imp ?_
  rintro u w' ⟨H', o', ⟨hv, rfl⟩, hb', ht, hs'⟩
  refine ⟨_, o', ⟨hv, rfl⟩, hb', ht, ?_⟩
  rw [List.set_set] at hs'
  have hnew : (mapis r (mcells K C.agg (mput lg k (v, gv)))).p w' o' m := hs' m _ (by simp [hlt])
  intro j h hj
  rw [List.getElem?_set] at hj
  split at hj
  · rename_i hjm
    subst hjm
    try rw [if_pos hlt] at hj
    obtain rfl := Option.some.inj hj
    refine ⟨mput lg k (v, gv), by rw [mput_lg, ← e], hnew, fun p hp => ?_⟩
    rcases mput_mem lg k (v, gv) p hp with rfl | hp
    · exact hsp_tr (C.free _ _) ht hhs
    · exact hsp_tr (C.free _ _) ht (hS p hp)
  · exact hs' j h (by rw [List.getElem?_set]; rw [if_neg (by assumption)]; exact hj)
end
end Go.Abs
