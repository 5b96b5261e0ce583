/-
  Texts that stand side by side: AbsCore, AbsOps, AbsMem, AbsWrite, AbsAppend, AbsCall, AbsAid, WireNum, WireSpec, WireList, WireSane, WireTrip, WireCanon.
-/
import Derived.WalkKit
import Derived.Deep.LoopGhost
import Derived.Scope
import Derived.Orders
import Derived.Sort.LoopGhostIn
import Derived.TacticsIn
import Derived.RangeFuncRecord
namespace Go.Abs

/-- the fence that keeps nothing out: in an activation (none), or in a round of the loop l -/
def FR (r : Option Nat) : Fence := { fn := fun _ => True, depth := none, alive := false, round := r }
theorem wpIn_scope {F : Fence} {n : Nat} {P : Program} {Q : Exit → Act → World → Prop} {a : Act} {w : World} {c : Code} (h : c.wpIn F n P (Exit.noGoto Q) a w) : (Code.scope c).wpIn F n P Q a w := by
  intro b k cs hro hb hr
  have h0 : (lone (b.atR a (.code (.scope c) :: k)) cs w).fenced P F := fenced_calm hb hr rfl
  have s0 : step P (lone (b.atR a (.code (.scope c) :: k)) cs w) = .next (lone (b.atR a (.code c :: .inScope c :: k)) cs w) := step_lone_go (by simp [stepG, stepG.exec, Frame.atR])
  have s1 : ∀ a w, step P (lone (b.atR a (.inScope c :: k)) cs w) = .next (lone (b.atR a k) cs w) := fun a w => step_lone_go (by simp [stepG, stepG.exec, Frame.atR])
  obtain ⟨e, a₁, w₁, hq, harr⟩ := h b (.inScope c :: k) cs hro hb hr
  cases e with
  | normal => exact ⟨.normal, a₁, w₁, hq, .head h0 s0 (StepsIn.trans harr (.one (fenced_calm hb hr rfl) (s1 _ _)))⟩
  | exit id =>
    have hx : exitTo id (.inScope c :: k) = exitTo id k := by simp [exitTo]
    exact ⟨.exit id, a₁, w₁, hq, fun k' hk => .head h0 s0 (harr.1 k' (by rw [hx]; exact hk)),
      fun hr' hk => let ⟨k₁, h1, h2⟩ := harr.2 hr' (by rw [hx]; exact hk); ⟨k₁, h1, .head h0 s0 h2⟩⟩
  | goto l => exact hq.elim
  | ret => exact ⟨_, a₁, w₁, hq, .of_steps (.one h0 s0) harr⟩
  | panic ch => exact ⟨_, a₁, w₁, hq, .of_steps (.one h0 s0) harr⟩
  | outgrown => exact ⟨_, a₁, w₁, hq, .of_steps (.one h0 s0) harr⟩

inductive Ow where
  | no
  | mine (k : Nat)
  | far

abbrev Own := Nat → Ow
abbrev VF := Nat → Option Value

def VF.set (V : VF) (d : Nat) (v : Value) : VF := fun t => bif Nat.beq t d then some v else V t
def VF.put (V : VF) (d : Option Nat) (v : Value) : VF := match d with | some d => V.set d v | none => V
def VF.of : List (Nat × Value) → VF
  | [], _ => none
  | (d, v) :: r, t => bif Nat.beq t d then some v else VF.of r t
def VF.args : List Value → Nat → VF
  | [], _, _ => none
  | v :: r, i, t => bif Nat.beq t i then some v else VF.args r (i + 1) t

theorem beqF {a b : Nat} (h : ¬ a = b) : Nat.beq a b = false := by
  cases e : Nat.beq a b with
  | false => rfl
  | true => exact absurd (Nat.eq_of_beq_eq_true e) h

theorem VF.set_eq {V : VF} {d t : Nat} {v x : Value} (h : V.set d v t = some x) : (t = d ∧ x = v) ∨ (t ≠ d ∧ V t = some x) := by
  unfold VF.set at h
  by_cases e : t = d
  · subst e; simp at h; exact .inl ⟨rfl, h.symm⟩
  · have : Nat.beq t d = false := beqF e
    rw [this] at h; exact .inr ⟨e, h⟩
structure HA where
  p : World → Own → Nat → Prop
  keep : ∀ {w w' : World} {o o' : Own} {k k' : Nat}, w.heap.size ≤ w'.heap.size →
    (∀ b, b < w.heap.size → o b = .mine k → o' b = .mine k' ∧ w'.heap[b]? = w.heap[b]?) →
    (∀ b, b < w.heap.size → o b = .no → o' b = .no ∧ w'.heap[b]? = w.heap[b]?) → p w o k → p w' o' k'

def HA.emp : HA := ⟨fun _ _ _ => True, fun _ _ _ _ => trivial⟩

def Sats (w : World) (o : Own) (H : List HA) : Prop := ∀ (k : Nat) (h : HA), H[k]? = some h → h.p w o k
def Bnd (w : World) (o : Own) : Prop := ∀ b, w.heap.size ≤ b → o b = .no

structure Tr (w : World) (o : Own) (w' : World) (o' : Own) : Prop where
  os : w'.os = w.os
  tape : w'.tape = w.tape
  output : w'.output = w.output
  size : w.heap.size ≤ w'.heap.size
  no : ∀ b, b < w.heap.size → o b = .no → o' b = .no ∧ w'.heap[b]? = w.heap[b]?
  far : ∀ b, b < w.heap.size → o b = .far → o' b = .far ∧ w'.heap[b]? = w.heap[b]?

theorem Tr.refl (w : World) (o : Own) : Tr w o w o := ⟨rfl, rfl, rfl, Nat.le_refl _, fun _ _ h => ⟨h, rfl⟩, fun _ _ h => ⟨h, rfl⟩⟩
theorem Tr.trans {w w1 w2 : World} {o o1 o2 : Own} (h : Tr w o w1 o1) (k : Tr w1 o1 w2 o2) : Tr w o w2 o2 :=
  ⟨k.os.trans h.os, k.tape.trans h.tape, k.output.trans h.output, Nat.le_trans h.size k.size,
   fun b hb ho => let ⟨e1, e2⟩ := h.no b hb ho; let ⟨e3, e4⟩ := k.no b (Nat.lt_of_lt_of_le hb h.size) e1; ⟨e3, e4.trans e2⟩,
   fun b hb ho => let ⟨e1, e2⟩ := h.far b hb ho; let ⟨e3, e4⟩ := k.far b (Nat.lt_of_lt_of_le hb h.size) e1; ⟨e3, e4.trans e2⟩⟩

/-- the marks that ranges over functions have left: each block is nobody's, newer than the walk's beginning, and holds no call -/
def Marked (w0 : World) (ds : List Deferred) (w : World) (o : Own) : Prop :=
  (∀ d ∈ ds, ∃ D, d = { target := .collected D, args := #[] } ∧ w0.heap.size ≤ D ∧ D < w.heap.size ∧ o D = .far ∧ w.heap[D]? = some (.deferred (some []))) ∧ ds.Nodup
structure TrM (w0 : World) (o0 : Own) (ds : List Deferred) (w : World) (o : Own) : Prop where
  tr : Tr w0 o0 w o
  mks : Marked w0 ds w o
theorem Marked.nil (w0 w : World) (o : Own) : Marked w0 [] w o := ⟨fun d h => by simp at h, List.nodup_nil⟩
theorem Marked.trans {w0 w w' : World} {ds : List Deferred} {o o' : Own} (h : Marked w0 ds w o) (t : Tr w o w' o') : Marked w0 ds w' o' :=
  ⟨fun d hd => let ⟨D, e, h1, h2, h3, h4⟩ := h.1 d hd; let ⟨f1, f2⟩ := t.far D h2 h3; ⟨D, e, h1, Nat.lt_of_lt_of_le h2 t.size, f1, f2.trans h4⟩, h.2⟩
theorem TrM.trans {w0 w w' : World} {ds : List Deferred} {o0 o o' : Own} (h : TrM w0 o0 ds w o) (t : Tr w o w' o') : TrM w0 o0 ds w' o' := ⟨h.tr.trans t, h.mks.trans t⟩
theorem TrM.refl (w : World) (o : Own) : TrM w o [] w o := ⟨Tr.refl w o, Marked.nil w w o⟩

/-- what a walk holds fixed: the program, the number of slots, the world at entry, the loop whose round it is, what must hold at its end -/
structure Env where
  P : Program
  n : Nat
  w0 : World
  o0 : Own
  r : Option Nat
  B : Exit → Act → World → Prop
  /-- what was deferred by the function itself -/
  db : List Deferred := []
  /-- nothing is deferred, nor marked -/
  nd : Bool := r.isSome
  /-- does the end by a panic not look at the slots? -/
  blind : Bool := true
  np : blind = true → ∀ (c : List PanicEntry) (a : Act) (d : Option Nat) (v : Value) (w : World), B (.panic c) (a.put d v) w → B (.panic c) a w
  no : ∀ a w, ¬ B .outgrown a w

/-- what has turned since the beginning; the marks stand ahead of what the function itself has deferred -/
def TrD (E : Env) (ds : List Deferred) (w : World) (o : Own) : Prop := ∃ ms, ds = ms ++ E.db ∧ TrM E.w0 E.o0 ms w o
theorem TrD.trans {E : Env} {ds : List Deferred} {w w' : World} {o o' : Own} (h : TrD E ds w o) (t : Tr w o w' o') : TrD E ds w' o' := let ⟨ms, e, k⟩ := h; ⟨ms, e, k.trans t⟩
theorem TrD.tr {E : Env} {ds : List Deferred} {w : World} {o : Own} (h : TrD E ds w o) : Tr E.w0 E.o0 w o := let ⟨_, _, k⟩ := h; k.tr
theorem TrD.of {E : Env} {ds : List Deferred} {w : World} {o : Own} (h : TrM E.w0 E.o0 ds w o) (he : E.db = []) : TrD E ds w o := ⟨ds, by rw [he]; simp, h⟩
theorem TrD.m {E : Env} {ds : List Deferred} {w : World} {o : Own} (h : TrD E ds w o) (he : E.db = []) : TrM E.w0 E.o0 ds w o := by
  obtain ⟨ms, e, k⟩ := h
  rw [he] at e
  simp at e
  subst e
  exact k
def Agree (V : VF) (a : Act) : Prop := ∀ t v, V t = some v → a.tmps.getD t undef = v

def Rel (E : Env) (V : VF) (H : List HA) (a : Act) (w : World) : Prop :=
  a.tmps.size = E.n ∧ (E.nd = true → a.defers = []) ∧ Agree V a ∧ ∃ o, Bnd w o ∧ TrD E a.defers w o ∧ Sats w o H

inductive KI where
  | code (c : Code)
  | blk (id : Nat)
  | scope
  | loop (L : Act → World → Prop)

def Qof (E : Env) : List KI → Exit → Act → World → Prop
  | [] => E.B
  | .code y :: k => Exit.then (fun a w => y.wpIn (FR E.r) 0 E.P (Qof E k) a w) (Qof E k)
  | .blk id :: k => Exit.inBlock id (Qof E k)
  | .scope :: k => Exit.noGoto (Qof E k)
  | .loop L :: k => Exit.then L (Qof E k)

def Run (E : Env) (c : Code) (k : List KI) (V : VF) (H : List HA) : Prop := ∀ a w, Rel E V H a w → c.wpIn (FR E.r) 0 E.P (Qof E k) a w
def Ops (E : Env) (ops : Array Oper) (l : List Oper) (k : List KI) (V : VF) (H : List HA) : Prop :=
  ∀ a w, Rel E V H a w → wpListIn (FR E.r) 0 E.P ops (Qof E k) l a w
def Goes (E : Env) (k : List KI) (V : VF) (H : List HA) : Prop := ∀ a w, Rel E V H a w → Qof E k .normal a w
def Fin (E : Env) (V : VF) (H : List HA) : Prop := ∀ a w, Rel E V H a w → E.B .ret a w

variable {E : Env} {k : List KI} {V : VF} {H : List HA}

theorem run_seq {x y : Code} (h : Run E x (.code y :: k) V H) : Run E (.seq x y) k V H := fun a w r => wpIn_seq (h a w r)
theorem run_block {id : Nat} {c : Code} (h : Run E c (.blk id :: k) V H) : Run E (.block id c) k V H := fun a w r => wpIn_block (h a w r)
theorem run_scope {c : Code} (h : Run E c (.scope :: k) V H) : Run E (.scope c) k V H := fun a w r => wpIn_scope (h a w r)
theorem run_skip (h : Goes E k V H) : Run E .skip k V H := fun a w r => wpIn_skip (h a w r)
theorem run_label {l : Nat} (h : Goes E k V H) : Run E (.label l) k V H := fun a w r => wpIn_label (h a w r)
theorem run_region' {id : Nat} {l : List Oper} (h : Ops E l.toArray l k V H) : Run E (.region id l.toArray false) k V H :=
  fun a w r => wpIn_region_list (by simpa using h a w r)

/-- the value of an operand, where it is known -/
def VF.ev (V : VF) : Operand → Option Value
  | .tmp t => V t
  | .const v => some v
  | .global g => some (.pointer (some ⟨g, 0, none⟩))
  | .func f => some (.func (.func f) #[] #[])

theorem Agree.ev {a : Act} (h : Agree V a) {x : Operand} {v : Value} (hx : V.ev x = some v) : a.eval x = v := by
  cases x with
  | tmp t => exact h t v hx
  | const c => simpa [VF.ev, Act.eval] using hx
  | global g => simpa [VF.ev, Act.eval] using hx
  | func f => simpa [VF.ev, Act.eval] using hx

theorem run_cond {c : Operand} {x y : Code} (b : Bool) (hc : V.ev c = some (.bool b)) (ht : b = true → Run E x k V H) (hf : b = false → Run E y k V H) :
    Run E (.cond c x y) k V H := fun a w r => wpIn_cond_split (r.2.2.1.ev hc) (fun h => ht h a w r) (fun h => hf h a w r)
theorem run_cond_f {c : Operand} {x y : Code} (hc : V.ev c = some (.bool false)) (hf : Run E y k V H) :
    Run E (.cond c x y) k V H := fun a w r => wpIn_cond_false (r.2.2.1.ev hc) (hf a w r)

theorem goes_code {y : Code} (h : Run E y k V H) : Goes E (.code y :: k) V H := fun a w r => h a w r
theorem goes_blk {id : Nat} (h : Goes E k V H) : Goes E (.blk id :: k) V H := fun a w r => h a w r
theorem goes_nil (h : Fin E V H) (hB : ∀ a w, E.B .ret a w → E.B .normal a w := by exact fun _ _ h => h) : Goes E [] V H := fun a w r => hB a w (h a w r)
theorem ops_nil {ops : Array Oper} (h : Goes E k V H) : Ops E ops [] k V H := fun a w r => wpListIn_nil (h a w r)

/-- what stands behind the block that is left -/
def exitK (id : Nat) : List KI → Option (List KI)
  | .blk id' :: k => bif Nat.beq id id' then some k else exitK id k
  | _ :: k => exitK id k
  | [] => none

theorem Qof_exit (id : Nat) : ∀ (k k' : List KI) (a : Act) (w : World), exitK id k = some k' → Qof E k' .normal a w → Qof E k (.exit id) a w
  | [], _, _, _, h, _ => by simp [exitK] at h
  | .code y :: k, k', a, w, h, q => Qof_exit id k k' a w h q
  | .scope :: k, k', a, w, h, q => Qof_exit id k k' a w h q
  | .loop L :: k, k', a, w, h, q => Qof_exit id k k' a w h q
  | .blk id' :: k, k', a, w, h, q => by
    unfold exitK at h
    show Exit.inBlock id' (Qof E k) (.exit id) a w
    by_cases e : id = id'
    · subst e
      simp at h; subst h
      simpa [Exit.inBlock] using q
    · have : Nat.beq id id' = false := beqF e
      rw [this] at h
      simp only [Exit.inBlock, e, if_false]
      exact Qof_exit id k k' a w h q
theorem Qof_ret : ∀ (k : List KI) (a : Act) (w : World), E.B .ret a w → Qof E k .ret a w
  | [], _, _, q => q
  | .code _ :: k, a, w, q => Qof_ret k a w q
  | .scope :: k, a, w, q => Qof_ret k a w q
  | .loop _ :: k, a, w, q => Qof_ret k a w q
  | .blk _ :: k, a, w, q => Qof_ret k a w q

theorem run_exit {id : Nat} (k' : List KI) (hk : exitK id k = some k') (h : Goes E k' V H) : Run E (.exit id) k V H :=
  fun a w r => wpIn_exit (Qof_exit id k k' a w hk (h a w r))
theorem run_ret (h : Fin E V H) : Run E .ret k V H := fun a w r => wpIn_ret (Qof_ret k a w (h a w r))

/-! weakening -/
def VF.le (V' V : VF) : Prop := ∀ t v, V' t = some v → V t = some v
theorem VF.le_of : ∀ (l : List (Nat × Value)), (∀ x ∈ l, V x.1 = some x.2) → VF.le (VF.of l) V
  | [], _, _, _, h => by simp [VF.of] at h
  | (d, v) :: r, hl, t, x, h => by
    unfold VF.of at h
    by_cases e : t = d
    · subst e; simp at h; subst h; exact hl _ (List.mem_cons_self ..)
    · have : Nat.beq t d = false := beqF e
      rw [this] at h
      exact VF.le_of r (fun y hy => hl y (List.mem_cons_of_mem _ hy)) t x h

theorem Rel.vle {V' : VF} {a : Act} {w : World} (h : VF.le V' V) (r : Rel E V H a w) : Rel E V' H a w :=
  ⟨r.1, r.2.1, fun t v hv => r.2.2.1 t v (h t v hv), r.2.2.2⟩

/-- the assertions at the places 'is', in this order; what owned a block and is left out owns it no more -/
def reown (is : List Nat) (o : Own) : Own := fun b => match o b with
  | .mine k => if k ∈ is then .mine (is.idxOf k) else .no
  | x => x
theorem sats_pick {w : World} {o : Own} {is : List Nat} {G : List HA} (hn : is.Nodup) (hG : ∀ (j : Nat) (g : HA), G[j]? = some g → ∃ i, is[j]? = some i ∧ H[i]? = some g) (h : Sats w o H) :
    Sats w (reown is o) G := by
  intro j g hj
  obtain ⟨i, hi, hHi⟩ := hG j g hj
  refine g.keep (Nat.le_refl _) (fun b _ hb => ⟨?_, rfl⟩) (fun b _ hb => ⟨by simp [reown, hb], rfl⟩) (h i g hHi)
  have hm : i ∈ is := List.mem_of_getElem? hi
  obtain ⟨hlt, he⟩ := List.getElem?_eq_some_iff.1 hi
  simp only [reown, hb, hm, if_pos]
  congr 1
  subst he
  exact hn.idxOf_getElem j hlt
theorem bnd_reown {w : World} {o : Own} (is : List Nat) (h : Bnd w o) : Bnd w (reown is o) := fun b hb => by simp [reown, h b hb]
theorem tr_reown' {w w' : World} {o o' : Own} (is : List Nat) (h : Tr w o w' o') : Tr w o w' (reown is o') :=
  ⟨h.os, h.tape, h.output, h.size, fun b hb ho => let ⟨e1, e2⟩ := h.no b hb ho; ⟨by simp [reown, e1], e2⟩,
   fun b hb ho => let ⟨e1, e2⟩ := h.far b hb ho; ⟨by simp [reown, e1], e2⟩⟩

theorem tr_reown {w w' : World} {o o' : Own} {ds : List Deferred} (is : List Nat) (h : TrM w o ds w' o') : TrM w o ds w' (reown is o') :=
  ⟨tr_reown' is h.tr, fun d hd => let ⟨D, e, h1, h2, h3, h4⟩ := h.mks.1 d hd; ⟨D, e, h1, h2, by simp [reown, h3], h4⟩, h.mks.2⟩

theorem trd_reown {E : Env} {w : World} {o : Own} {ds : List Deferred} (is : List Nat) (h : TrD E ds w o) : TrD E ds w (reown is o) := let ⟨ms, e, k⟩ := h; ⟨ms, e, tr_reown is k⟩
def Picks (is : List Nat) (H G : List HA) : Prop := is.map (fun i => H[i]?) = G.map some
theorem Picks.get {is : List Nat} {G : List HA} (h : Picks is H G) (j : Nat) (g : HA) (hj : G[j]? = some g) : ∃ i, is[j]? = some i ∧ H[i]? = some g := by
  have h1 : (is.map (fun i => H[i]?))[j]? = (G.map some)[j]? := by rw [h]
  simp only [List.getElem?_map, hj, Option.map_some] at h1
  cases hi : is[j]? with
  | none => rw [hi] at h1; simp at h1
  | some i => rw [hi] at h1; simp at h1; exact ⟨i, rfl, h1⟩
theorem Rel.pick {a : Act} {w : World} {is : List Nat} {G : List HA} (hn : is.Nodup) (hG : Picks is H G) (r : Rel E V H a w) : Rel E V G a w := by
  obtain ⟨h1, h2, h3, o, hb, ht, hs⟩ := r
  exact ⟨h1, h2, h3, reown is o, bnd_reown is hb, trd_reown is ht, sats_pick hn hG.get hs⟩

theorem run_weak {c : Code} (l : List (Nat × Value)) (is : List Nat) (G : List HA) (hl : ∀ x ∈ l, V x.1 = some x.2) (hn : is.Nodup) (hG : Picks is H G)
    (h : Run E c k (VF.of l) G) : Run E c k V H := fun a w r => h a w ((r.vle (VF.le_of l hl)).pick hn hG)
/-- a loop: its state s, what the slots and the memory hold then, what is true of s, how many rounds are left at most -/
theorem run_loop {c : Code} (S : Type) (Vi : S → List (Nat × Value)) (Hi : S → List HA) (inv : S → Prop) (μ : S → Nat) (is : List Nat) (s0 : S)
    (hl : ∀ x ∈ Vi s0, V x.1 = some x.2) (hn : is.Nodup) (hG : Picks is H (Hi s0)) (h0 : inv s0)
    (round : ∀ s, inv s → ∀ L : Act → World → Prop, (∀ s', inv s' → μ s' < μ s → ∀ a w, Rel E (VF.of (Vi s')) (Hi s') a w → L a w) → Run E c (.loop L :: k) (VF.of (Vi s)) (Hi s)) :
    Run E (.loop c) k V H := by
  intro a w r
  refine wpIn_loop_ghost (fun m a w => ∃ s, inv s ∧ μ s = m ∧ Rel E (VF.of (Vi s)) (Hi s) a w) (μ s0) ⟨s0, h0, rfl, (r.vle (VF.le_of _ hl)).pick hn hG⟩ ?_
  rintro m a w ⟨s, hi, rfl, hr⟩
  exact round s hi _ (fun s' hi' hlt a w hr' => ⟨μ s', hlt, s', hi', rfl, hr'⟩) a w hr
/-! contracts -/
def Post := Value → List HA → Prop
def Ends (w : World) (o : Own) (post : Post) (e : Ending) (w' : World) : Prop :=
  ∃ v G o', e = .returned v ∧ post v G ∧ Bnd w' o' ∧ Tr w o w' o' ∧ Sats w' o' G
def Meets (P : Program) (f : FuncId) (args : List Value) (H : List HA) (post : Post) : Prop :=
  ∀ w o, Bnd w o → Sats w o H → Calls P f args.toArray w (Ends w o post)

theorem getD_append_left {l : List Value} {m : Nat} {t : Nat} (v : Value) (h : l[t]? = some v) : (l.toArray ++ Array.replicate m undef).getD t undef = v := by
  obtain ⟨hlt, he⟩ := List.getElem?_eq_some_iff.1 h
  simp [Array.getElem?_append, hlt, he]
theorem VF.args_get : ∀ (l : List Value) (i t : Nat) (v : Value), VF.args l i t = some v → i ≤ t ∧ l[t - i]? = some v
  | [], _, _, _, h => by simp [VF.args] at h
  | x :: r, i, t, v, h => by
    unfold VF.args at h
    by_cases e : t = i
    · subst e; simp at h; subst h; simp
    · have : Nat.beq t i = false := beqF e
      rw [this] at h
      obtain ⟨h1, h2⟩ := VF.args_get r (i + 1) t v h
      refine ⟨by omega, ?_⟩
      rw [show t - i = (t - (i + 1)) + 1 by omega]
      simpa using h2

/-- a call returns, or panics with a value that 'pan' tells -/
def EndsP (w : World) (o : Own) (post : Post) (pan : Value → Prop) (e : Ending) (w' : World) : Prop :=
  Ends w o post e w' ∨ ∃ v o', e = .panicked [{ v := v, recovered := false }] ∧ pan v ∧ Bnd w' o' ∧ Tr w o w' o'
def MeetsP (P : Program) (f : FuncId) (args : List Value) (H : List HA) (post : Post) (pan : Value → Prop) : Prop :=
  ∀ w o, Bnd w o → Sats w o H → Calls P f args.toArray w (EndsP w o post pan)
/-- what is asked at the end of a function -/
def bodyBP (P : Program) (fn : Func) (w0 : World) (o0 : Own) (post : Post) (pan : Value → Prop) : Exit → Act → World → Prop
  | .panic c, a, w => ∃ v o', c = [{ v := v, recovered := false }] ∧ pan v ∧ Bnd w o' ∧ TrM w0 o0 a.defers w o'
  | .outgrown, _, _ => False
  | e, a, w => bodyPostM (FR none) 0 P fn (EndsP w0 o0 post pan) e a w
def EnvP (P : Program) (n : Nat) (w0 : World) (o0 : Own) (fn : Func) (post : Post) (pan : Value → Prop) : Env :=
  { P := P, n := n, w0 := w0, o0 := o0, r := none, B := bodyBP P fn w0 o0 post pan, np := fun _ _ _ d _ _ h => by cases d <;> exact h, no := fun _ _ h => h }
abbrev EnvF (P : Program) (n : Nat) (w0 : World) (o0 : Own) (fn : Func) (post : Post) : Env := EnvP P n w0 o0 fn post (fun _ => False)
/-- the marks are taken away -/
theorem leaves_marks {P : Program} {w0 : World} {o0 : Own} {fn : Func} {tmps : Array Value} {R : Ending → World → Prop} {u : FrameMode} {H : List HA} (hu : u ≠ .run)
    (h : ∀ w' o, Bnd w' o → Tr w0 o0 w' o → Sats w' o H → LeavesInM (FR none) 0 P fn tmps R [] u w') : ∀ (ds : List Deferred) (w : World) (o : Own), Bnd w o → TrM w0 o0 ds w o → Sats w o H → LeavesInM (FR none) 0 P fn tmps R ds u w
  | [], w, o, hb, ht, hs => h w o hb ht.tr hs
  | d :: ds, w, o, hb, ht, hs => by
    obtain ⟨D, e, h1, h2, h3, h4⟩ := ht.mks.1 d (List.mem_cons_self ..)
    have hnd := List.nodup_cons.1 ht.mks.2
    refine ⟨hu, .inl ⟨D, w.putObj D (.deferred none), by rw [e], run_takeDeferred h4, ?_⟩⟩
    have hsz : (w.putObj D (.deferred none)).heap.size = w.heap.size := World.putObj_size
    have hot : ∀ b, o b ≠ .far → (w.putObj D (.deferred none)).heap[b]? = w.heap[b]? := fun b hb => World.putObj_heap_other (by rintro rfl; exact hb h3)
    refine leaves_marks hu h ds _ o ?_ ?_ ?_
    · intro b hb'; exact hb b (by rwa [hsz] at hb')
    · refine ⟨⟨ht.tr.os, ht.tr.tape, ht.tr.output, by rw [hsz]; exact ht.tr.size, fun b hb' ho => ?_, fun b hb' ho => ?_⟩, fun d' hd' => ?_, hnd.2⟩
      · obtain ⟨f1, f2⟩ := ht.tr.no b hb' ho
        exact ⟨f1, (hot b (by rw [f1]; simp)).trans f2⟩
      · obtain ⟨f1, f2⟩ := ht.tr.far b hb' ho
        exact ⟨f1, (World.putObj_heap_other (by omega)).trans f2⟩
      · obtain ⟨D', e', g1, g2, g3, g4⟩ := ht.mks.1 d' (List.mem_cons_of_mem _ hd')
        refine ⟨D', e', g1, by rw [hsz]; exact g2, g3, (World.putObj_heap_other ?_).trans g4⟩
        rintro rfl
        exact hnd.1 (by rw [e, ← e']; exact hd')
    · intro j g hj
      exact g.keep (Nat.le_of_eq hsz.symm) (fun b _ hb' => ⟨hb', hot b (by rw [hb']; simp)⟩) (fun b _ hb' => ⟨hb', hot b (by rw [hb']; simp)⟩) (hs j g hj)
theorem bodyBP_post {P : Program} {fn : Func} {w0 : World} {o0 : Own} {post : Post} {pan : Value → Prop} {e : Exit} {a : Act} {w : World} (h : bodyBP P fn w0 o0 post pan e a w) : bodyPostM (FR none) 0 P fn (EndsP w0 o0 post pan) e a w := by
  cases e with
  | panic c =>
    obtain ⟨v, o', rfl, hv, hb, ht⟩ := h
    refine leaves_marks (H := []) (u := .panicking [{ v := v, recovered := false }]) (by simp) (fun w' o hb' ht' _ => ?_) _ _ _ hb ht (fun j h hj => by simp at hj)
    show EndsP w0 o0 post pan (.panicked [{ v := v, recovered := false }]) w'
    exact .inr ⟨v, o, rfl, hv, hb', ht'⟩
  | outgrown => exact h.elim
  | normal => exact h
  | ret => exact h
  | exit _ => exact h
  | goto _ => exact h

theorem fnp_of_run {P : Program} {f : FuncId} {fn : Func} {c : Code} {args : List Value} {H : List HA} {post : Post} {pan : Value → Prop} {n : Nat}
    (hf : P.funcs[f]? = some fn) (hb : fn.body = some c) (hm : fn.ntmps = n) (hn : Nat.ble args.length n = true)
    (h : ∀ w0 o0, Run (EnvP P n w0 o0 fn post pan) c [] (VF.args args 0) H) : MeetsP P f args H post pan := by
  intro w o hbd hs
  refine callsIn_wide.1 (callsIn_of_wp_marks (F := FR none) (n := 0) hf hb trivial ?_)
  refine wpIn_mono (h w o _ _ ⟨?_, (fun _ => rfl), ?_, o, hbd, TrD.of (TrM.refl w o) rfl, hs⟩) (fun _ _ _ h => bodyBP_post h)
  · have := Nat.le_of_ble_eq_true hn
    simp [hm, EnvP]; omega
  · intro t v hv
    obtain ⟨_, h2⟩ := VF.args_get args 0 t v hv
    exact getD_append_left v (by simpa using h2)
theorem fn_of_run {P : Program} {f : FuncId} {fn : Func} {c : Code} {args : List Value} {H : List HA} {post : Post} {n : Nat}
    (hf : P.funcs[f]? = some fn) (hb : fn.body = some c) (hm : fn.ntmps = n) (hn : Nat.ble args.length n = true)
    (h : ∀ w0 o0, Run (EnvF P n w0 o0 fn post) c [] (VF.args args 0) H) : Meets P f args H post := fun w o hbd hs =>
  (fnp_of_run hf hb hm hn h w o hbd hs).mono fun e w' h => by
    rcases h with h | ⟨v, o', _, h, _⟩
    · exact h
    · exact h.elim
def tup : List Value → Value
  | [v] => v
  | vs => .tuple vs.toArray

theorem mapM_slots (tmps : Array Value) (g : ResultVar → Sem Value) (hg : ∀ t, g (.tmp t) = pure (tmps.getD t undef)) (ts : List Nat) :
    (ts.map ResultVar.tmp).toArray.mapM g = pure (ts.map fun t => tmps.getD t undef).toArray := by
  rw [List.mapM_toArray]
  have : (ts.map ResultVar.tmp).mapM g = pure (ts.map fun t => tmps.getD t undef) := by
    induction ts with
    | nil => rfl
    | cons x r ih => simp only [List.map_cons, List.mapM_cons, ih, hg, pure_bind]
  rw [this]; rfl

/-- results in slots -/
theorem results_slots {P : Program} {fn : Func} {ts : List Nat} {tmps : Array Value} {w : World} (h : fn.results = (ts.map ResultVar.tmp).toArray) :
    (results fn tmps).run P w = .ok (tup (ts.map fun t => tmps.getD t undef)) w := by
  unfold results
  rw [h, mapM_slots tmps _ (fun _ => rfl)]
  match ts with
  | [] => simp [tup]
  | [t] => simp [tup]
  | t :: u :: r => simp [tup]

theorem Rel.leaves {P : Program} {n : Nat} {w0 : World} {o0 : Own} {fn : Func} {post : Post} {pan : Value → Prop} {a : Act} {w : World} (r : Rel (EnvP P n w0 o0 fn post pan) V H a w)
    (h : ∀ w' o, Bnd w' o → Tr w0 o0 w' o → Sats w' o H → ∃ v, (results fn a.tmps).run P w' = .ok v w' ∧ Ends w0 o0 post (.returned v) w') : bodyBP P fn w0 o0 post pan .ret a w := by
  obtain ⟨_, _, _, o, hb, ht, hs⟩ := r
  refine leaves_marks (u := .returning) (by simp) (fun w' o hb ht hs => ?_) _ _ _ hb (ht.m rfl) hs
  show ∃ v, (results fn a.tmps).run P w' = .ok v w' ∧ EndsP w0 o0 post pan (.returned v) w'
  obtain ⟨v, h1, h2⟩ := h w' o hb ht hs
  exact ⟨v, h1, .inl h2⟩

/-- the end of a function whose results lie in slots: 'vs' what they hold -/
theorem fin_slots {P : Program} {n : Nat} {w0 : World} {o0 : Own} {fn : Func} {post : Post} {pan : Value → Prop} (ts : List Nat) (vs : List Value) (is : List Nat) (G : List HA)
    (hr : fn.results = (ts.map ResultVar.tmp).toArray) (hv : ts.map V = vs.map some) (hn : is.Nodup) (hG : Picks is H G)
    (hp : post (tup vs) G) :
    Fin (EnvP P n w0 o0 fn post pan) V H := by
  intro a w r
  have ha := r.2.2.1
  refine (r.pick hn hG).leaves fun w' o hb ht hs => ⟨_, results_slots hr, _, G, o, rfl, ?_, hb, ht, hs⟩
  have : ts.map (fun t => a.tmps.getD t undef) = vs := by
    have key : ∀ (ts : List Nat) (vs : List Value), ts.map V = vs.map some → ts.map (fun t => a.tmps.getD t undef) = vs := by
      intro ts
      induction ts with
      | nil => intro vs h; cases vs <;> simp_all
      | cons t r ih =>
        intro vs h
        cases vs with
        | nil => simp at h
        | cons v vs =>
          simp only [List.map_cons, List.cons.injEq] at h ⊢
          exact ⟨ha t v h.1, ih vs h.2⟩
    exact key ts vs hv
  rw [this]
  exact hp

end Go.Abs
namespace Go.Abs

variable {E : Env} {k : List KI} {V : VF} {H : List HA}

def Fits (V : VF) (ρ : Operand → Value) : Prop := ∀ x v, V.ev x = some v → ρ x = v

/-- how an operation ends: a value, nothing, or a call that returns -/
def Does (P : Program) (s : Sem Next) (w : World) (D : Value → World → Prop) : Prop :=
  match s.run P w with
  | .ok (.value v) w' => D v w'
  | .ok .skip w' => D undef w'
  | .ok (.enter f args) w' => Calls P f args w' (fun e w'' => ∃ v, e = .returned v ∧ D v w'')
  | _ => False
theorem Does.semAt {P : Program} {op : Oper} {ρ : Operand → Value} {w : World} {D : Value → World → Prop} (r : Option Nat) (h : Does P (execOp ρ op) w D) : op.semAt r ρ = execOp ρ op := by
  refine Oper.semAt_eq r ρ op fun c hc => ?_
  unfold Does execOp at h
  rw [hc] at h
  simp only [Sem.run_bind] at h
  cases hx : (resolve ρ c op.type).run P w with
  | halt x w' => simp [hx, Result.andThen] at h
  | ok d w' => simp [hx, Result.andThen] at h

def OpT (P : Program) (op : Oper) (V : VF) (H : List HA) (post : Post) : Prop :=
  ∀ ρ w o, Fits V ρ → Bnd w o → Sats w o H →
    Does P (execOp ρ op) w (fun v w' => ∃ H' o', post v H' ∧ Bnd w' o' ∧ Tr w o w' o' ∧ Sats w' o' H')
def OpY (P : Program) (op : Oper) (V : VF) (H : List HA) (v : Value) : Prop :=
  ∀ ρ w o, Fits V ρ → Bnd w o → Sats w o H → (execOp ρ op).run P w = .ok (.value v) w

theorem OpY.t {P : Program} {op : Oper} {v : Value} (h : OpY P op V H v) : OpT P op V H (fun v' H' => v' = v ∧ H' = H) := by
  intro ρ w o hf hb hs
  unfold Does
  rw [h ρ w o hf hb hs]
  exact ⟨H, o, ⟨rfl, rfl⟩, hb, Tr.refl w o, hs⟩

theorem Rel.fits {a : Act} {w : World} (r : Rel E V H a w) : Fits V a.eval := fun _ _ hx => r.2.2.1.ev hx

def inB (n : Nat) : Option Nat → Bool
  | some d => Nat.blt d n
  | none => true

theorem Rel.put {a : Act} {w w' : World} {o o' : Own} {d : Option Nat} {v : Value} {H' : List HA} (h1 : a.tmps.size = E.n) (h2 : E.nd = true → a.defers = []) (h3 : Agree V a)
    (hd : inB E.n d = true) (hb : Bnd w' o') (ht0 : TrD E a.defers w o) (ht : Tr w o w' o') (hs : Sats w' o' H') : Rel E (V.put d v) H' (a.put d v) w' := by
  cases d with
  | none => exact ⟨h1, h2, h3, o', hb, ht0.trans ht, hs⟩
  | some d =>
    have hlt : d < E.n := by simpa [inB] using hd
    refine ⟨by simp [Act.put, h1], h2, ?_, o', hb, ht0.trans ht, hs⟩
    intro t x hx
    rcases VF.set_eq hx with ⟨rfl, rfl⟩ | ⟨hne, hx⟩
    · simp [Act.put, h1, hlt]
    · have := h3 t x hx
      simp only [Act.put, Array.getD_eq_getD_getElem?] at this ⊢
      rw [Array.getElem?_setIfInBounds_ne (by omega)]
      exact this

/-- the operation is wanted -/
def Wants (n : Nat) (ops : Array Oper) (V : VF) (op : Oper) : Prop :=
  op.guard = none ∨ ∃ j b t, op.guard = some (j, b) ∧ ((ops[j]?).bind (·.dst)) = some t ∧ V t = some (.bool b) ∧ Nat.blt t n = true
theorem wn {n : Nat} {ops : Array Oper} {op : Oper} (h : op.guard = none) : Wants n ops V op := .inl h
theorem wg {n : Nat} {ops : Array Oper} {op : Oper} (j : Nat) (b : Bool) (t : Nat) (h : op.guard = some (j, b)) (hj : ((ops[j]?).bind (·.dst)) = some t)
    (hv : V t = some (.bool b)) (ht : Nat.blt t n = true) : Wants n ops V op := .inr ⟨j, b, t, h, hj, hv, ht⟩

theorem getD_some {a : Act} {t n : Nat} {v : Value} (h1 : a.tmps.size = n) (ht : Nat.blt t n = true) (h : a.tmps.getD t undef = v) : a.tmps[t]? = some v := by
  have hlt : t < a.tmps.size := by rw [h1]; simpa using ht
  rw [Array.getD_eq_getD_getElem?, Array.getElem?_eq_getElem hlt] at h
  rw [Array.getElem?_eq_getElem hlt]
  simpa using h

theorem Wants.wanted {ops : Array Oper} {op : Oper} {a : Act} {w : World} (h : Wants E.n ops V op) (r : Rel E V H a w) : Region.wanted op (yielded ops a.tmps) = true := by
  rcases h with h | ⟨j, b, t, hg, hj, hv, ht⟩
  · simp [Region.wanted, h]
  · have h2 := getD_some r.1 ht (r.2.2.1 t _ hv)
    simp [Region.wanted, hg, yielded, hj, h2]

theorem ops_t {ops : Array Oper} {op : Oper} {rest : List Oper} {post : Post} (hw : Wants E.n ops V op) (hd : inB E.n op.dst = true) (h : OpT E.P op V H post)
    (hk : ∀ v H', post v H' → Ops E ops rest k (V.put op.dst v) H') : Ops E ops (op :: rest) k V H := by
  intro a w r
  unfold wpListIn
  rw [if_pos (hw.wanted r)]
  have hf := r.fits
  obtain ⟨h1, h2, h3, o, hb, ht, hs⟩ := r
  have := h a.eval w o hf hb hs
  unfold Oper.wpIn
  refine ⟨fun _ _ => trivial, ?_⟩
  rw [Does.semAt _ this]
  unfold Does at this
  generalize (execOp a.eval op).run E.P w = x at *
  cases x with
  | halt x w' => simp at this
  | ok nx w' =>
    cases nx <;> simp only [Oper.uponIn] at this ⊢
    case value v =>
      obtain ⟨H', o', hp, hb', ht', hs'⟩ := this
      exact hk v H' hp _ _ (Rel.put h1 h2 h3 hd hb' ht ht' hs')
    case skip =>
      obtain ⟨H', o', hp, hb', ht', hs'⟩ := this
      exact hk _ H' hp _ _ (Rel.put h1 h2 h3 hd hb' ht ht' hs')
    case enter f args =>
      refine ⟨(fun h => nomatch h), CallsIn.mono (F := FR E.r) (callsIn_wide.2 this) ?_⟩
      rintro e w'' ⟨v, rfl, H', o', hp, hb', ht', hs'⟩
      exact hk v H' hp _ _ (Rel.put h1 h2 h3 hd hb' ht ht' hs')

theorem ops_y {ops : Array Oper} {op : Oper} {rest : List Oper} {v : Value} (hw : Wants E.n ops V op) (hd : inB E.n op.dst = true) (h : OpY E.P op V H v)
    (hk : Ops E ops rest k (V.put op.dst v) H) : Ops E ops (op :: rest) k V H :=
  ops_t hw hd h.t fun _ _ ⟨e1, e2⟩ => by subst e1; subst e2; exact hk

/-- the operation is passed over -/
theorem ops_no {ops : Array Oper} {op : Oper} {rest : List Oper} (j : Nat) (b : Bool) (t : Nat) (hg : op.guard = some (j, b)) (hj : ((ops[j]?).bind (·.dst)) = some t)
    (hv : V t = some (.bool (!b))) (ht : Nat.blt t E.n = true) (hd : inB E.n op.dst = true) (hk : Ops E ops rest k (V.put op.dst undef) H) : Ops E ops (op :: rest) k V H := by
  intro a w r
  have h2 := getD_some r.1 ht (r.2.2.1 t _ hv)
  unfold wpListIn
  rw [if_neg (by cases b <;> simp [Region.wanted, hg, yielded, hj, h2])]
  refine ⟨fun _ _ => trivial, ?_⟩
  obtain ⟨h1, h2, h3, o, hb, ht, hs⟩ := r
  exact hk _ _ (Rel.put h1 h2 h3 hd hb ht (Tr.refl w o) hs)

/-- a slot's truth value parts the way -/
theorem ops_split {ops : Array Oper} {l : List Oper} (t : Nat) (b : Bool) (hv : V t = some (.bool b)) (ht : b = true → Ops E ops l k (V.set t (.bool true)) H)
    (hf : b = false → Ops E ops l k (V.set t (.bool false)) H) : Ops E ops l k V H := by
  have same : ∀ c, b = c → ∀ a, Agree V a → Agree (V.set t (.bool c)) a := by
    intro c hc a ha u x hx
    rcases VF.set_eq hx with ⟨rfl, rfl⟩ | ⟨_, hx⟩
    · exact hc ▸ ha u _ hv
    · exact ha u x hx
  intro a w r
  cases hb : b with
  | true => exact ht hb a w ⟨r.1, r.2.1, same _ hb a r.2.2.1, r.2.2.2⟩
  | false => exact hf hb a w ⟨r.1, r.2.1, same _ hb a r.2.2.1, r.2.2.2⟩

theorem OpY.to {P : Program} {op : Oper} {v v' : Value} (h : OpY P op V H v) (e : v = v') : OpY P op V H v' := e ▸ h

section pure
variable {P : Program} {d : Option Nat} {ty : TypeId} {pos : String} {af : Array Edge} {g : Option (Nat × Bool)}

theorem y_move {x : Operand} {v : Value} (hx : V.ev x = some v) : OpY P ⟨d, .move x, ty, pos, af, g⟩ V H v := by
  intro ρ w o hf _ _; simp [execOp, hf x v hx]
theorem y_assign {x : Operand} {v : Value} (hx : V.ev x = some v) : OpY P ⟨d, .assign x, ty, pos, af, g⟩ V H v := by
  intro ρ w o hf _ _; simp [execOp, hf x v hx]
theorem y_pick {c x y : Operand} {b : Bool} {v : Value} (hc : V.ev c = some (.bool b)) (hv : V.ev (if b then x else y) = some v) : OpY P ⟨d, .pick c x y, ty, pos, af, g⟩ V H v := by
  intro ρ w o hf _ _
  have h1 := hf c _ hc
  have h2 := hf _ _ hv
  cases b <;> simp [execOp, h1, asBool] <;> simpa using h2

/-- the guard of '==' is idle at numbers, strings, truth values -/
def plainB : Value → Bool
  | .int .. | .string _ | .bool _ => true
  | _ => false
theorem run_eqGuard (P : Program) (w : World) (op : BinOp) (t : TypeId) (x y : Operand) {a b : Value} (ha : plainB a = true) : (eqGuard op t x y a b).run P w = .ok () w := by
  unfold eqGuard
  cases op <;> simp <;> (cases a <;> simp [plainB] at ha <;> simp)

theorem y_bin {op : BinOp} {T U : TypeId} {x y : Operand} {a b v : Value} (hx : V.ev x = some a) (hy : V.ev y = some b) (ha : plainB a = true)
    (hr : ∀ w, (binOp op T a b).run P w = .ok v w) : OpY P ⟨d, .binOp op T x y U, ty, pos, af, g⟩ V H v := by
  intro ρ w o hf _ _
  simp [execOp, hf x a hx, hf y b hy, run_eqGuard P w op T x y ha, hr]

theorem y_add {T U : TypeId} {x y : Operand} {kd : IntKind} {a b : Int} (hx : V.ev x = some (.int kd a)) (hy : V.ev y = some (.int kd b)) :
    OpY P ⟨d, .binOp .add T x y U, ty, pos, af, g⟩ V H (.int kd (kd.wrap (a + b))) := y_bin hx hy rfl (fun w => by simp [binOp, Op.intArith])
theorem y_sub {T U : TypeId} {x y : Operand} {kd : IntKind} {a b : Int} (hx : V.ev x = some (.int kd a)) (hy : V.ev y = some (.int kd b)) :
    OpY P ⟨d, .binOp .sub T x y U, ty, pos, af, g⟩ V H (.int kd (kd.wrap (a - b))) := y_bin hx hy rfl (fun w => by simp [binOp, Op.intArith])
theorem y_mul {T U : TypeId} {x y : Operand} {kd : IntKind} {a b : Int} (hx : V.ev x = some (.int kd a)) (hy : V.ev y = some (.int kd b)) :
    OpY P ⟨d, .binOp .mul T x y U, ty, pos, af, g⟩ V H (.int kd (kd.wrap (a * b))) := y_bin hx hy rfl (fun w => by simp [binOp, Op.intArith])
theorem y_quo {T U : TypeId} {x y : Operand} {kd : IntKind} {a b : Int} (hx : V.ev x = some (.int kd a)) (hy : V.ev y = some (.int kd b)) (h0 : b ≠ 0) :
    OpY P ⟨d, .binOp .quo T x y U, ty, pos, af, g⟩ V H (.int kd (kd.wrap (a.tdiv b))) := y_bin hx hy rfl (fun w => by simp [binOp, Op.intDiv, h0])
def bitAnd (kd : IntKind) (a b : Int) : Int := kd.wrap (BitVec.ofInt kd.bits a &&& BitVec.ofInt kd.bits b).toNat
def bitOr (kd : IntKind) (a b : Int) : Int := kd.wrap (BitVec.ofInt kd.bits a ||| BitVec.ofInt kd.bits b).toNat
def bitXor (kd : IntKind) (a b : Int) : Int := kd.wrap (BitVec.ofInt kd.bits a ^^^ BitVec.ofInt kd.bits b).toNat
theorem y_and {T U : TypeId} {x y : Operand} {kd : IntKind} {a b : Int} (hx : V.ev x = some (.int kd a)) (hy : V.ev y = some (.int kd b)) :
    OpY P ⟨d, .binOp .and T x y U, ty, pos, af, g⟩ V H (.int kd (bitAnd kd a b)) := y_bin hx hy rfl (fun w => by simp [binOp, Op.intBits, bitAnd])
theorem y_or {T U : TypeId} {x y : Operand} {kd : IntKind} {a b : Int} (hx : V.ev x = some (.int kd a)) (hy : V.ev y = some (.int kd b)) :
    OpY P ⟨d, .binOp .or T x y U, ty, pos, af, g⟩ V H (.int kd (bitOr kd a b)) := y_bin hx hy rfl (fun w => by simp [binOp, Op.intBits, bitOr])
theorem y_xor {T U : TypeId} {x y : Operand} {kd : IntKind} {a b : Int} (hx : V.ev x = some (.int kd a)) (hy : V.ev y = some (.int kd b)) :
    OpY P ⟨d, .binOp .xor T x y U, ty, pos, af, g⟩ V H (.int kd (bitXor kd a b)) := y_bin hx hy rfl (fun w => by simp [binOp, Op.intBits, bitXor])
theorem y_shl {T U : TypeId} {x y : Operand} {kd kd' : IntKind} {a b : Int} (hx : V.ev x = some (.int kd a)) (hy : V.ev y = some (.int kd' b)) (h0 : 0 ≤ b) :
    OpY P ⟨d, .binOp .shl T x y U, ty, pos, af, g⟩ V H (.int kd (kd.wrap (a * 2 ^ (min b.toNat kd.bits)))) := y_bin hx hy rfl (fun w => by simp [binOp, Op.shift, Int.not_lt.2 h0])
theorem y_shr {T U : TypeId} {x y : Operand} {kd kd' : IntKind} {a b : Int} (hx : V.ev x = some (.int kd a)) (hy : V.ev y = some (.int kd' b)) (h0 : 0 ≤ b) :
    OpY P ⟨d, .binOp .shr T x y U, ty, pos, af, g⟩ V H (.int kd (a.fdiv (2 ^ (min b.toNat kd.bits)))) := y_bin hx hy rfl (fun w => by simp [binOp, Op.shift, Int.not_lt.2 h0])
theorem beq_dec {α : Type} [BEq α] [LawfulBEq α] [DecidableEq α] (a b : α) : (a == b) = decide (a = b) := by
  by_cases h : a = b <;> simp [h]
/-- a string of bytes -/
def bs (l : List UInt8) : ByteArray := ⟨l.toArray⟩
theorem bs_toList (l : List UInt8) : (bs l).toList = l := by rw [ByteArray.toList_eq]; rfl
theorem bs_size (l : List UInt8) : (bs l).size = l.length := by simp [bs, ByteArray.size]
theorem y_eql {T U : TypeId} {x y : Operand} {kd : IntKind} {a b : Int} (hx : V.ev x = some (.int kd a)) (hy : V.ev y = some (.int kd b)) :
    OpY P ⟨d, .binOp .eql T x y U, ty, pos, af, g⟩ V H (.bool (decide (a = b))) := y_bin hx hy rfl (fun w => by simp [binOp, Op.intCmp, beq_dec])
theorem y_neq {T U : TypeId} {x y : Operand} {kd : IntKind} {a b : Int} (hx : V.ev x = some (.int kd a)) (hy : V.ev y = some (.int kd b)) :
    OpY P ⟨d, .binOp .neq T x y U, ty, pos, af, g⟩ V H (.bool (decide (a ≠ b))) := y_bin hx hy rfl (fun w => by simp [binOp, Op.intCmp, bne, beq_dec])
theorem y_lss {T U : TypeId} {x y : Operand} {kd : IntKind} {a b : Int} (hx : V.ev x = some (.int kd a)) (hy : V.ev y = some (.int kd b)) :
    OpY P ⟨d, .binOp .lss T x y U, ty, pos, af, g⟩ V H (.bool (decide (a < b))) := y_bin hx hy rfl (fun w => by simp [binOp, Op.intCmp])
theorem y_leq {T U : TypeId} {x y : Operand} {kd : IntKind} {a b : Int} (hx : V.ev x = some (.int kd a)) (hy : V.ev y = some (.int kd b)) :
    OpY P ⟨d, .binOp .leq T x y U, ty, pos, af, g⟩ V H (.bool (decide (a ≤ b))) := y_bin hx hy rfl (fun w => by simp [binOp, Op.intCmp])
theorem y_gtr {T U : TypeId} {x y : Operand} {kd : IntKind} {a b : Int} (hx : V.ev x = some (.int kd a)) (hy : V.ev y = some (.int kd b)) :
    OpY P ⟨d, .binOp .gtr T x y U, ty, pos, af, g⟩ V H (.bool (decide (b < a))) := y_bin hx hy rfl (fun w => by simp [binOp, Op.intCmp])
theorem y_geq {T U : TypeId} {x y : Operand} {kd : IntKind} {a b : Int} (hx : V.ev x = some (.int kd a)) (hy : V.ev y = some (.int kd b)) :
    OpY P ⟨d, .binOp .geq T x y U, ty, pos, af, g⟩ V H (.bool (decide (b ≤ a))) := y_bin hx hy rfl (fun w => by simp [binOp, Op.intCmp])
theorem y_seql {T U : TypeId} {x y : Operand} {a b : List UInt8} (hx : V.ev x = some (.string (bs a))) (hy : V.ev y = some (.string (bs b))) :
    OpY P ⟨d, .binOp .eql T x y U, ty, pos, af, g⟩ V H (.bool (decide (a = b))) := y_bin hx hy rfl (fun w => by simp [binOp, Op.stringOp, beq_dec, bs_toList])
theorem y_sneq {T U : TypeId} {x y : Operand} {a b : List UInt8} (hx : V.ev x = some (.string (bs a))) (hy : V.ev y = some (.string (bs b))) :
    OpY P ⟨d, .binOp .neq T x y U, ty, pos, af, g⟩ V H (.bool (!decide (a = b))) := y_bin hx hy rfl (fun w => by simp [binOp, Op.stringOp, beq_dec, bs_toList])
theorem y_neg {T : TypeId} {x : Operand} {kd : IntKind} {a : Int} (hx : V.ev x = some (.int kd a)) :
    OpY P ⟨d, .unOp .neg T x, ty, pos, af, g⟩ V H (.int kd (kd.wrap (0 - a))) := by
  intro ρ w o hf _ _; simp [execOp, hf x _ hx, Op.unary, Op.intArith]
theorem y_not {T : TypeId} {x : Operand} {b : Bool} (hx : V.ev x = some (.bool b)) : OpY P ⟨d, .unOp .not T x, ty, pos, af, g⟩ V H (.bool (!b)) := by
  intro ρ w o hf _ _; simp [execOp, hf x _ hx, Op.unary]
theorem y_conv {S T : TypeId} {ds : TypeDesc} {x : Operand} {kd kd' : IntKind} {a : Int} (hS : ∀ w, (underlying S).run P w = .ok ds w) (hT : ∀ w, (underlying T).run P w = .ok (.int kd') w) (hx : V.ev x = some (.int kd a)) :
    OpY P ⟨d, .convert S T x, ty, pos, af, g⟩ V H (.int kd' (kd'.wrap a)) := by
  intro ρ w o hf _ _
  simp [execOp, hf x _ hx, convert, hS, hT, Conv.intToInt]
theorem y_extract {x : Operand} {vs : Array Value} {i : Nat} {v : Value} (hx : V.ev x = some (.tuple vs)) (hv : vs[i]? = some v) : OpY P ⟨d, .extract x i, ty, pos, af, g⟩ V H v := by
  intro ρ w o hf _ _; simp [execOp, hf x _ hx, Instr.extract, hv]
end pure

end Go.Abs
namespace Go.Abs

variable {k : List KI} {V : VF} {H : List HA}

def Value.sbase : Value → Addr
  | .slice (some a) _ _ => a
  | _ => default
/-- the pointer to the cell that lies n cells behind the slice's first one -/
def elemP (v : Value) (n : Nat) : Value := .pointer (some ⟨(Value.sbase v).block, (Value.sbase v).off + n, none⟩)
def boxP (b off : Nat) : Value := .pointer (some ⟨b, off, none⟩)

/-- the cells that a slice leads to lie, in this order, in a block that meets 'B' -/
def CellsOf (w : World) (B : Nat → Prop) (a : Option Addr) (es : Nat) (cells : List (List Value)) : Prop :=
  ∀ (i : Nat) (c : List Value), cells[i]? = some c → c.length = es ∧ ∃ b off, a = some ⟨b, off, none⟩ ∧ b < w.heap.size ∧ B b ∧
    ∀ (j : Nat) (x : Value), c[j]? = some x → w.cell? ⟨b, off + i * es + j, none⟩ = some x

def SliceIs (w : World) (B : Nat → Prop) (v : Value) (es : Nat) (cells : List (List Value)) : Prop :=
  ∃ a cap, v = .slice a cells.length cap ∧ cells.length ≤ cap ∧ cap ≤ maxLen ∧ (a = none → cap = 0) ∧ CellsOf w B a es cells

theorem cell_of_block {w w' : World} {b : Nat} (h : w'.heap[b]? = w.heap[b]?) (off : Nat) : w'.cell? ⟨b, off, none⟩ = w.cell? ⟨b, off, none⟩ := by
  simp only [World.cell?, h]

theorem CellsOf.keep {w w' : World} {B B' : Nat → Prop} {a : Option Addr} {es : Nat} {cells : List (List Value)} (hs : w.heap.size ≤ w'.heap.size)
    (h : ∀ b, b < w.heap.size → B b → B' b ∧ w'.heap[b]? = w.heap[b]?) (hc : CellsOf w B a es cells) : CellsOf w' B' a es cells := by
  intro i c hi
  obtain ⟨h1, b, off, h2, h3, h4, h5⟩ := hc i c hi
  obtain ⟨h6, h7⟩ := h b h3 h4
  exact ⟨h1, b, off, h2, Nat.lt_of_lt_of_le h3 hs, h6, fun j x hj => by rw [cell_of_block h7]; exact h5 j x hj⟩
theorem SliceIs.keep {w w' : World} {B B' : Nat → Prop} {v : Value} {es : Nat} {cells : List (List Value)} (hs : w.heap.size ≤ w'.heap.size)
    (h : ∀ b, b < w.heap.size → B b → B' b ∧ w'.heap[b]? = w.heap[b]?) (hc : SliceIs w B v es cells) : SliceIs w' B' v es cells := by
  obtain ⟨a, cap, h1, h2, h3, h4, h5⟩ := hc
  exact ⟨a, cap, h1, h2, h3, h4, h5.keep hs h⟩

/-- a slice that is only read -/
def ro (v : Value) (es : Nat) (cells : List (List Value)) : HA :=
  ⟨fun w o _ => SliceIs w (fun b => o b = .no) v es cells, fun hs _ h2 hc => hc.keep hs h2⟩

/-- a slice of the call's own: nil, or the head part of a block that nobody else sees -/
def RowIs (w : World) (M : Nat → Prop) (v : Value) (es : Nat) (cells : List (List Value)) : Prop :=
  ((∃ a, v = .slice a 0 0) ∧ cells = []) ∨
  ∃ b off cap arr T fz, v = .slice (some ⟨b, off, none⟩) cells.length cap ∧ M b ∧ b < w.heap.size ∧ w.heap[b]? = some (.cells arr T fz) ∧
    (fz.2 ≤ fz.1 ∨ arr.size ≤ fz.1) ∧ arr.size = off + cap * es ∧ cells.length ≤ cap ∧ cap ≤ maxLen ∧ (∀ c ∈ cells, c.length = es) ∧
    ∀ (i : Nat) (c : List Value), cells[i]? = some c → ∀ (j : Nat) (x : Value), c[j]? = some x → arr[off + i * es + j]? = some x

theorem RowIs.keep {w w' : World} {M M' : Nat → Prop} {v : Value} {es : Nat} {cells : List (List Value)} (hs : w.heap.size ≤ w'.heap.size)
    (h : ∀ b, b < w.heap.size → M b → M' b ∧ w'.heap[b]? = w.heap[b]?) (hc : RowIs w M v es cells) : RowIs w' M' v es cells := by
  rcases hc with hc | ⟨b, off, cap, arr, T, fz, h1, h2, h3, h4, h5⟩
  · exact .inl hc
  · obtain ⟨e1, e2⟩ := h b h3 h2
    exact .inr ⟨b, off, cap, arr, T, fz, h1, e1, Nat.lt_of_lt_of_le h3 hs, e2.trans h4, h5⟩

def row (v : Value) (es : Nat) (cells : List (List Value)) : HA :=
  ⟨fun w o k => RowIs w (fun b => o b = .mine k) v es cells, fun hs h1 _ hc => hc.keep hs h1⟩

theorem cell_at {w : World} {b : Nat} {arr : Array Value} {T : TypeId} {fz : Nat × Nat} (h : w.heap[b]? = some (.cells arr T fz)) (off : Nat) :
    w.cell? ⟨b, off, none⟩ = arr[off]? := by simp [World.cell?, h]
theorem frozen_at {w : World} {b : Nat} {arr : Array Value} {T : TypeId} {fz : Nat × Nat} (h : w.heap[b]? = some (.cells arr T fz)) (hf : fz.2 ≤ fz.1 ∨ arr.size ≤ fz.1) (off : Nat) (ho : off < arr.size) :
    w.frozen? ⟨b, off, none⟩ = false := by
  obtain ⟨lo, hi⟩ := fz
  simp only [World.frozen?, h]
  rw [Bool.and_eq_false_iff]
  rcases hf with hf | hf
  · simp at hf ⊢; omega
  · simp at hf ⊢; omega

/-- a row is a slice that can be read -/
theorem RowIs.slice {w : World} {M B : Nat → Prop} {v : Value} {es : Nat} {cells : List (List Value)} (hB : ∀ b, M b → B b) (h : RowIs w M v es cells) : SliceIs w B v es cells := by
  rcases h with ⟨h1, h2⟩ | ⟨b, off, cap, arr, T, fz, h1, h2, h3, h4, h5, h6, h7, h8, h9, h10⟩
  · subst h2
    obtain ⟨a, h1⟩ := h1
    exact ⟨a, 0, h1, Nat.le_refl _, Nat.zero_le _, fun _ => rfl, fun i c hi => by simp at hi⟩
  · refine ⟨_, cap, h1, h7, h8, fun e => by simp at e, ?_⟩
    intro i c hi
    refine ⟨h9 c (List.mem_of_getElem? hi), b, off, rfl, h3, hB b h2, fun j x hj => ?_⟩
    rw [cell_at h4]
    exact h10 i c hi j x hj

/-- whatever can be read as a slice -/
structure Reads (h : HA) (v : Value) (es : Nat) (cells : List (List Value)) : Prop where
  is : ∀ w o k, h.p w o k → SliceIs w (fun b => o b = .no ∨ o b = .mine k) v es cells
theorem reads_ro {v : Value} {es : Nat} {cells : List (List Value)} : Reads (ro v es cells) v es cells :=
  ⟨fun _ _ _ h => SliceIs.keep (Nat.le_refl _) (fun _ _ hb => ⟨.inl hb, rfl⟩) h⟩
theorem reads_row {v : Value} {es : Nat} {cells : List (List Value)} : Reads (row v es cells) v es cells :=
  ⟨fun _ _ _ h => RowIs.slice (fun _ hb => .inr hb) h⟩

/-- a block of the call's own, known whole -/
def box (b : Nat) (vs : List Value) : HA :=
  ⟨fun w o k => o b = .mine k ∧ b < w.heap.size ∧ ∃ T fz, w.heap[b]? = some (.cells vs.toArray T fz) ∧ fz.2 ≤ fz.1, fun hs h1 _ hc =>
    let ⟨e1, e2, T, fz, e3, e4⟩ := hc; let ⟨e5, e6⟩ := h1 b e2 e1; ⟨e5, Nat.lt_of_lt_of_le e2 hs, T, fz, e6.trans e3, e4⟩⟩

/-! loads -/
section loads
variable {P : Program} {d : Option Nat} {ty : TypeId} {pos : String} {af : Array Edge} {g : Option (Nat × Bool)}

theorem run_loadCellsFrom {w : World} (b off : Nat) : ∀ (c : List Value) (i : Nat) (acc : Array Value), (∀ (j : Nat) (x : Value), c[j]? = some x → w.cell? ⟨b, off + i + j, none⟩ = some x) →
    (loadCellsFrom ⟨b, off, none⟩ i c.length acc).run P w = .ok (acc ++ c.toArray) w
  | [], i, acc, _ => by simp [loadCellsFrom]
  | x :: c, i, acc, h => by
    have h0 := h 0 x rfl
    have ha : (Addr.add ⟨b, off, none⟩ i) = ⟨b, off + i, none⟩ := by unfold Addr.add; split <;> simp_all
    have ih := run_loadCellsFrom b off c (i + 1) (acc.push x) (fun j y hj => by have := h (j + 1) y (by simpa using hj); rw [← this]; congr 2; omega)
    simp only [List.length_cons, loadCellsFrom, Sem.run_bind, run_load, ha]
    rw [show off + i = off + i + 0 by omega, h0]
    simp only [Result.andThen_ok]
    rw [ih]; simp
theorem run_loadCells {w : World} (b off : Nat) (c : List Value) (h : ∀ (j : Nat) (x : Value), c[j]? = some x → w.cell? ⟨b, off + j, none⟩ = some x) :
    (loadCells ⟨b, off, none⟩ c.length).run P w = .ok c.toArray w := by
  unfold loadCells
  rw [run_loadCellsFrom b off c 0 #[] (by simpa using h)]; simp

theorem SliceIs.elem {w : World} {B : Nat → Prop} {v : Value} {es : Nat} {cells : List (List Value)} (h : SliceIs w B v es cells) {i : Nat} {c : List Value} (hi : cells[i]? = some c) :
    c.length = es ∧ ∃ b off cap, v = .slice (some ⟨b, off, none⟩) cells.length cap ∧ ∀ (j : Nat) (x : Value), c[j]? = some x → w.cell? ⟨b, off + i * es + j, none⟩ = some x := by
  obtain ⟨a, cap, h1, _, _, _, h5⟩ := h
  obtain ⟨e1, b, off, e2, _, _, e5⟩ := h5 i c hi
  exact ⟨e1, b, off, cap, by rw [h1, e2], e5⟩

theorem y_load_elem {T : TypeId} {x : Operand} {v r : Value} {es i : Nat} {cells : List (List Value)} {h : HA} (m : Nat) (ha : ∀ w, (isAgg T).run P w = .ok false w)
    (hx : V.ev x = some (elemP v (i * es))) (hm : H[m]? = some h) (hr : Reads h v es cells) (hc : cells[i]? = some [r]) : OpY P ⟨d, .load T x, ty, pos, af, g⟩ V H r := by
  intro ρ w o hf _ hs
  obtain ⟨_, b, off, cap, e1, e2⟩ := (hr.is w o m (hs m h hm)).elem hc
  have := e2 0 r rfl
  subst e1
  simp [execOp, hf x _ hx, Instr.loadAt, Instr.sureAddr, elemP, Value.sbase, loadVar, ha]
  simp at this
  simp [this]
theorem y_load_field {T : TypeId} {x : Operand} {v r : Value} {es i j : Nat} {c : List Value} {cells : List (List Value)} {h : HA} (m : Nat) (ha : ∀ w, (isAgg T).run P w = .ok false w)
    (hx : V.ev x = some (elemP v (i * es + j))) (hm : H[m]? = some h) (hr : Reads h v es cells) (hc : cells[i]? = some c) (hj : c[j]? = some r) : OpY P ⟨d, .load T x, ty, pos, af, g⟩ V H r := by
  intro ρ w o hf _ hs
  obtain ⟨_, b, off, cap, e1, e2⟩ := (hr.is w o m (hs m h hm)).elem hc
  have := e2 j r hj
  subst e1
  simp [execOp, hf x _ hx, Instr.loadAt, Instr.sureAddr, elemP, Value.sbase, loadVar, ha]
  rw [show off + (i * es + j) = off + i * es + j by omega]
  simp [this]
theorem y_load_agg {T : TypeId} {x : Operand} {v : Value} {es i : Nat} {c : List Value} {cells : List (List Value)} {h : HA} (m : Nat) (ha : ∀ w, (isAgg T).run P w = .ok true w) (hz : ∀ w, (sizeOf T).run P w = .ok es w)
    (hx : V.ev x = some (elemP v (i * es))) (hm : H[m]? = some h) (hr : Reads h v es cells) (hc : cells[i]? = some c) : OpY P ⟨d, .load T x, ty, pos, af, g⟩ V H (.agg c.toArray) := by
  intro ρ w o hf _ hs
  obtain ⟨e0, b, off, cap, e1, e2⟩ := (hr.is w o m (hs m h hm)).elem hc
  subst e1
  have := run_loadCells (P := P) (w := w) b (off + i * es) c e2
  rw [e0] at this
  simp [execOp, hf x _ hx, Instr.loadAt, Instr.sureAddr, elemP, Value.sbase, loadVar, ha, hz, this]
theorem y_load_box {T : TypeId} {x : Operand} {r : Value} {b off : Nat} {vs : List Value} (m : Nat) (ha : ∀ w, (isAgg T).run P w = .ok false w)
    (hx : V.ev x = some (boxP b off)) (hm : H[m]? = some (box b vs)) (hc : vs[off]? = some r) : OpY P ⟨d, .load T x, ty, pos, af, g⟩ V H r := by
  intro ρ w o hf _ hs
  obtain ⟨_, _, T', fz, e3, _⟩ := hs m _ hm
  have := cell_at e3 off
  simp [execOp, hf x _ hx, Instr.loadAt, Instr.sureAddr, boxP, loadVar, ha, this, hc]
/-- the whole block, or a part of it -/
theorem y_load_boxagg {T : TypeId} {x : Operand} {b off : Nat} {c vs : List Value} (m : Nat) (ha : ∀ w, (isAgg T).run P w = .ok true w) (hz : ∀ w, (sizeOf T).run P w = .ok c.length w)
    (hx : V.ev x = some (boxP b off)) (hm : H[m]? = some (box b vs)) (hc : (vs.drop off).take c.length = c) : OpY P ⟨d, .load T x, ty, pos, af, g⟩ V H (.agg c.toArray) := by
  intro ρ w o hf _ hs
  obtain ⟨_, _, T', fz, e3, _⟩ := hs m _ hm
  have := run_loadCells (P := P) (w := w) b off c (fun j y hj => by
    rw [cell_at e3]
    rw [← hc, List.getElem?_take] at hj
    split at hj
    · simpa [List.getElem?_drop] using hj
    · simp at hj)
  simp [execOp, hf x _ hx, Instr.loadAt, Instr.sureAddr, boxP, loadVar, ha, hz, this]
theorem y_fieldAddr_box {S : TypeId} {x : Operand} {b off fi : Nat} {fs : Array Field} {f : Field} {sz : Nat} (hu : ∀ w, (underlying S).run P w = .ok (.struct fs) w) (hf' : fs[fi]? = some f)
    (hz : ∀ w, (sizeOf f.type).run P w = .ok (sz + 1) w) (hx : V.ev x = some (boxP b off)) : OpY P ⟨d, .fieldAddr S x fi, ty, pos, af, g⟩ V H (boxP b (off + f.offset)) := by
  intro ρ w o hf _ _
  have ha : (Addr.add ⟨b, off, none⟩ f.offset) = ⟨b, off + f.offset, none⟩ := by unfold Addr.add; split <;> simp_all
  simp [execOp, hf x _ hx, Instr.fieldAt, hu, hf', Instr.sureAddr, boxP, fieldPlace, hz, ha]
theorem y_fieldAddr_elem {S : TypeId} {x : Operand} {v : Value} {n fi : Nat} {fs : Array Field} {f : Field} {sz : Nat} (hu : ∀ w, (underlying S).run P w = .ok (.struct fs) w) (hf' : fs[fi]? = some f)
    (hz : ∀ w, (sizeOf f.type).run P w = .ok (sz + 1) w) (hx : V.ev x = some (elemP v n)) : OpY P ⟨d, .fieldAddr S x fi, ty, pos, af, g⟩ V H (elemP v (n + f.offset)) := by
  intro ρ w o hf _ _
  have ha : (Addr.add ⟨(Value.sbase v).block, (Value.sbase v).off + n, none⟩ f.offset) = ⟨(Value.sbase v).block, (Value.sbase v).off + (n + f.offset), none⟩ := by unfold Addr.add; split <;> simp_all <;> omega
  simp [execOp, hf x _ hx, Instr.fieldAt, hu, hf', Instr.sureAddr, elemP, fieldPlace, hz, ha]
theorem y_indexAddr {T el : TypeId} {x y : Operand} {v : Value} {kd : IntKind} {n es : Nat} {cells : List (List Value)} {h : HA} (m : Nat) (hu : ∀ w, (underlying T).run P w = .ok (.slice el) w)
    (hz : ∀ w, (sizeOf el).run P w = .ok es w) (hx : V.ev x = some v) (hy : V.ev y = some (.int kd n)) (hm : H[m]? = some h) (hr : Reads h v es cells) (hn : n < cells.length) :
    OpY P ⟨d, .indexAddr T x y, ty, pos, af, g⟩ V H (elemP v (n * es)) := by
  intro ρ w o hf _ hs
  obtain ⟨_, b, off, cap, e1, _⟩ := (hr.is w o m (hs m h hm)).elem (List.getElem?_eq_getElem hn)
  subst e1
  have ha : (Addr.add ⟨b, off, none⟩ (n * es)) = ⟨b, off + n * es, none⟩ := by
    unfold Addr.add; split
    · rename_i h0; rw [h0]; rfl
    · rfl
  simp [execOp, hf x _ hx, hf y _ hy, Instr.indexAt, asIntOf, hu, hz, elemP, Value.sbase, ha, hn]

theorem run_len {Ts : Array TypeId} {T el : TypeId} {w : World} {a : Option Addr} {n cap : Nat} (hT : Ts[0]? = some T) (hu : ∀ w, (underlying T).run P w = .ok (.slice el) w) :
    (Builtin.len_ Ts ty #[.slice a n cap]).run P w = .ok (.int .i64 n) w := by
  simp [Builtin.len_, hT, hu, goInt]
theorem y_len {Ts : Array TypeId} {T el : TypeId} {x : Operand} {v : Value} {es : Nat} {cells : List (List Value)} {h : HA} (m : Nat) (hT : Ts[0]? = some T) (hu : ∀ w, (underlying T).run P w = .ok (.slice el) w)
    (hx : V.ev x = some v) (hm : H[m]? = some h) (hr : Reads h v es cells) : OpY P ⟨d, .call ⟨.builtin .len, #[x], Ts⟩, ty, pos, af, g⟩ V H (.int .i64 cells.length) := by
  intro ρ w o hf _ hs
  obtain ⟨a, cap, e1, _⟩ := hr.is w o m (hs m h hm)
  subst e1
  simp [execOp, resolve, invoke, builtin, hf x _ hx, run_len hT hu]
theorem y_len_nil {Ts : Array TypeId} {T el : TypeId} {x : Operand} (hT : Ts[0]? = some T) (hu : ∀ w, (underlying T).run P w = .ok (.slice el) w)
    (hx : V.ev x = some (.slice none 0 0)) : OpY P ⟨d, .call ⟨.builtin .len, #[x], Ts⟩, ty, pos, af, g⟩ V H (.int .i64 0) := by
  intro ρ w o hf _ hs
  simp [execOp, resolve, invoke, builtin, hf x _ hx, run_len hT hu]
theorem y_len_str {Ts : Array TypeId} {T : TypeId} {x : Operand} {l : List UInt8} (hT : Ts[0]? = some T) (hu : ∀ w, (underlying T).run P w = .ok .string w)
    (hx : V.ev x = some (.string (bs l))) : OpY P ⟨d, .call ⟨.builtin .len, #[x], Ts⟩, ty, pos, af, g⟩ V H (.int .i64 l.length) := by
  intro ρ w o hf _ hs
  simp [execOp, resolve, invoke, builtin, hf x _ hx, Builtin.len_, hT, hu, goInt, bs_size]
/-! bytes to a string -/
def u8c (l : List UInt8) : List (List Value) := l.map fun b => [.int .u8 b.toNat]
theorem foldl_push : ∀ (l : List UInt8) (acc : ByteArray), l.foldl (fun b a => b.push a) acc = ⟨acc.data ++ l.toArray⟩
  | [], acc => by simp
  | b :: l, acc => by
    rw [List.foldl_cons, foldl_push l]
    simp [ByteArray.push]
theorem y_b2s {S T el : TypeId} {x : Operand} {v : Value} {l : List UInt8} {h : HA} (m : Nat) (hS : ∀ w, (underlying S).run P w = .ok (.slice el) w) (he : ∀ w, (underlying el).run P w = .ok (.int .u8) w)
    (hT : ∀ w, (underlying T).run P w = .ok .string w) (hx : V.ev x = some v) (hm : H[m]? = some h) (hr : Reads h v 1 (u8c l)) : OpY P ⟨d, .convert S T x, ty, pos, af, g⟩ V H (.string (bs l)) := by
  intro ρ w o hf _ hs
  have hi := hr.is w o m (hs m h hm)
  cases hl : l with
  | nil =>
    subst hl
    obtain ⟨a, cap, e1, _⟩ := hi
    subst e1
    cases a with
    | none => simp [execOp, hf x _ hx, convert, hS, hT, he, Conv.bytesToString]; rfl
    | some a => simp [execOp, hf x _ hx, convert, hS, hT, he, Conv.bytesToString, u8c, loadCells, loadCellsFrom]; rfl
  | cons b0 l0 =>
    rw [← hl]
    obtain ⟨_, b, off, cap, e1, _⟩ := hi.elem (i := 0) (c := [.int .u8 b0.toNat]) (by simp [u8c, hl])
    have hc : ∀ (j : Nat) (x : Value), (l.map fun b => Value.int .u8 b.toNat)[j]? = some x → w.cell? ⟨b, off + j, none⟩ = some x := by
      intro j y hj
      rw [List.getElem?_map] at hj
      cases hlj : l[j]? with
      | none => rw [hlj] at hj; simp at hj
      | some bb =>
        rw [hlj] at hj
        simp at hj
        obtain ⟨_, b', off', cap', e3, e4⟩ := hi.elem (i := j) (c := [.int .u8 bb.toNat]) (by simp [u8c, hlj])
        rw [e1] at e3
        simp only [Value.slice.injEq, Option.some.injEq, Addr.mk.injEq, and_true] at e3
        obtain ⟨⟨rfl, rfl⟩, _⟩ := e3
        have := e4 0 y (by simp [hj])
        simpa using this
    have hr := run_loadCells (P := P) b off _ hc
    have hlen : (u8c l).length = (l.map fun b => Value.int .u8 b.toNat).length := by simp [u8c]
    rw [e1] at hx
    simp only [execOp, hf x _ hx, convert, Sem.run_bind, hS, hT, he, Result.andThen_ok, Conv.bytesToString, hlen, hr]
    have hfold := foldl_push l ByteArray.empty
    simp [hfold]
    simp [bs]
end loads
end Go.Abs
namespace Go.Abs

variable {k : List KI} {V : VF} {H : List HA}

/-- block b now holds 'obj', all else is as it was -/
structure Wr (w : World) (b : Nat) (obj : Obj) (w' : World) : Prop where
  os : w'.os = w.os
  tape : w'.tape = w.tape
  output : w'.output = w.output
  size : w'.heap.size = w.heap.size
  here : w'.heap[b]? = some obj
  other : ∀ b', b' ≠ b → w'.heap[b']? = w.heap[b']?

def writeAt : Array Value → Nat → List Value → Array Value
  | arr, _, [] => arr
  | arr, n, v :: vs => writeAt (arr.setIfInBounds n v) (n + 1) vs
theorem size_writeAt : ∀ (vs : List Value) (arr : Array Value) (n : Nat), (writeAt arr n vs).size = arr.size
  | [], _, _ => rfl
  | v :: vs, arr, n => by rw [writeAt, size_writeAt vs]; simp
theorem get_writeAt : ∀ (vs : List Value) (arr : Array Value) (n m : Nat), n + vs.length ≤ arr.size →
    (writeAt arr n vs)[m]? = if n ≤ m ∧ m < n + vs.length then vs[m - n]? else arr[m]?
  | [], arr, n, m, _ => by
    have : ¬ (n ≤ m ∧ m < n + ([] : List Value).length) := by simp only [List.length_nil]; omega
    rw [if_neg this]; rfl
  | v :: vs, arr, n, m, h => by
    simp only [List.length_cons] at h
    rw [writeAt, get_writeAt vs _ _ _ (by simpa using (by omega : n + 1 + vs.length ≤ arr.size))]
    by_cases h1 : n = m
    · subst h1
      rw [if_neg (by omega), if_pos ⟨Nat.le_refl _, by simp⟩]
      simp [Array.getElem?_setIfInBounds_self]
      omega
    · rw [Array.getElem?_setIfInBounds_ne h1]
      by_cases h2 : n ≤ m ∧ m < n + (v :: vs).length
      · have h3 : n + 1 ≤ m ∧ m < n + 1 + vs.length := by simp at h2; omega
        rw [if_pos h2, if_pos h3, show m - n = (m - (n + 1)) + 1 by omega]
        simp
      · have h3 : ¬ (n + 1 ≤ m ∧ m < n + 1 + vs.length) := by simp at h2; omega
        rw [if_neg h2, if_neg h3]

theorem run_storeCells {P : Program} {b off : Nat} {T : TypeId} {fz : Nat × Nat} : ∀ (vs : List Value) (i : Nat) (arr : Array Value) (w : World), w.heap[b]? = some (.cells arr T fz) →
    (fz.2 ≤ fz.1 ∨ arr.size ≤ fz.1) → off + i + vs.length ≤ arr.size → (∀ v ∈ vs, v.oneCell' = true) →
    ∃ w', (storeCells ⟨b, off, none⟩ vs i).run P w = .ok () w' ∧ Wr w b (.cells (writeAt arr (off + i) vs) T fz) w'
  | [], i, arr, w, hb, _, _, _ => ⟨w, rfl, rfl, rfl, rfl, rfl, hb, fun _ _ => rfl⟩
  | v :: vs, i, arr, w, hb, hf, hl, hv => by
    simp only [List.length_cons] at hl
    have ha : (Addr.add ⟨b, off, none⟩ i) = ⟨b, off + i, none⟩ := by unfold Addr.add; split <;> simp_all
    have hlt : off + i < arr.size := by omega
    have hc : w.cell? ⟨b, off + i, none⟩ = some arr[off + i] := by rw [cell_at hb]; simp [hlt]
    have hz := frozen_at hb hf (off + i) hlt
    have hbs : b < w.heap.size := by
      rcases Nat.lt_or_ge b w.heap.size with h | h
      · exact h
      · rw [Array.getElem?_eq_none h] at hb; simp at hb
    have hb' : (w.setCell ⟨b, off + i, none⟩ v).heap[b]? = some (.cells (arr.setIfInBounds (off + i) v) T fz) := by
      simp [World.setCell, Array.getElem?_modify, hb]
    obtain ⟨w', h1, h2⟩ := run_storeCells (P := P) vs (i + 1) _ _ hb' (by simpa using hf) (by simpa using (by omega : off + (i + 1) + vs.length ≤ arr.size)) (fun x hx => hv x (List.mem_cons_of_mem _ hx))
    refine ⟨w', ?_, ?_⟩
    · simp only [storeCells, Sem.run_bind, ha, run_store P w _ v .plain (hv v (List.mem_cons_self ..)), hc, hz]
      simpa using h1
    · refine ⟨h2.os, h2.tape, h2.output, by rw [h2.size]; simp [World.setCell], ?_, fun b' hne => ?_⟩
      · rw [h2.here]; rfl
      · rw [h2.other b' hne]; simp [World.setCell, Array.getElem?_modify, Ne.symm hne]

/-- a new block -/
structure Nw (w : World) (obj : Obj) (w' : World) : Prop where
  os : w'.os = w.os
  tape : w'.tape = w.tape
  output : w'.output = w.output
  size : w'.heap.size = w.heap.size + 1
  here : w'.heap[w.heap.size]? = some obj
  other : ∀ b, b < w.heap.size → w'.heap[b]? = w.heap[b]?
theorem nw_push (w : World) (obj : Obj) (n : Nat) : Nw w obj { w with heap := w.heap.push obj, drawn := n } :=
  ⟨rfl, rfl, rfl, by simp, by simp, fun b hb => by simp [Array.getElem?_push, Nat.ne_of_lt hb]⟩

def addOwn (o : Own) (b m : Nat) : Own := fun x => if x = b then .mine m else o x

theorem sats_new {w w' : World} {o : Own} {obj : Obj} {g : HA} (hb : Bnd w o) (hn : Nw w obj w') (hs : Sats w o H)
    (hg : g.p w' (addOwn o w.heap.size H.length) H.length) :
    Bnd w' (addOwn o w.heap.size H.length) ∧ Tr w o w' (addOwn o w.heap.size H.length) ∧ Sats w' (addOwn o w.heap.size H.length) (H ++ [g]) := by
  have hne : ∀ b, b < w.heap.size → addOwn o w.heap.size H.length b = o b := fun b hlt => by simp [addOwn, Nat.ne_of_lt hlt]
  refine ⟨fun b hle => ?_, ⟨hn.os, hn.tape, hn.output, by rw [hn.size]; omega, fun b hlt ho => ⟨(hne b hlt).trans ho, hn.other b hlt⟩, fun b hlt ho => ⟨(hne b hlt).trans ho, hn.other b hlt⟩⟩, ?_⟩
  · rw [hn.size] at hle
    simp only [addOwn]
    rw [if_neg (by omega)]
    exact hb b (by omega)
  · intro j h hj
    rw [List.getElem?_append] at hj
    split at hj
    · exact h.keep (by rw [hn.size]; omega) (fun b hlt ho => ⟨(hne b hlt).trans ho, hn.other b hlt⟩) (fun b hlt ho => ⟨(hne b hlt).trans ho, hn.other b hlt⟩) (hs j h hj)
    · rename_i hlt
      have : j - H.length = 0 := by
        by_cases h0 : j - H.length = 0
        · exact h0
        · rw [show j - H.length = (j - H.length - 1) + 1 by omega] at hj; simp at hj
      rw [this] at hj
      simp at hj
      subst hj
      obtain rfl : j = H.length := by omega
      exact hg

theorem sats_upd {w w' : World} {o o' : Own} {m : Nat} {g : HA} (hsz : w.heap.size ≤ w'.heap.size) (ho : ∀ b, b < w.heap.size → o b ≠ .mine m → o' b = o b ∧ w'.heap[b]? = w.heap[b]?)
    (hs : Sats w o H) (hg : g.p w' o' m) : Sats w' o' (H.set m g) := by
  intro j h hj
  by_cases e : j = m
  · subst e
    rw [List.getElem?_set] at hj
    simp at hj
    obtain ⟨_, rfl⟩ := hj
    exact hg
  · rw [List.getElem?_set_ne (Ne.symm e)] at hj
    refine h.keep hsz (fun b hlt hb => ?_) (fun b hlt hb => ?_) (hs j h hj)
    · obtain ⟨e1, e2⟩ := ho b hlt (by rw [hb]; intro h'; injection h' with h'; exact e h')
      exact ⟨e1.trans hb, e2⟩
    · obtain ⟨e1, e2⟩ := ho b hlt (by rw [hb]; intro h'; cases h')
      exact ⟨e1.trans hb, e2⟩

section writes
variable {P : Program} {d : Option Nat} {ty : TypeId} {pos : String} {af : Array Edge} {g : Option (Nat × Bool)}

/-- a store into a block of the call's own -/
def wrL (vs : List Value) (off : Nat) (xs : List Value) : List Value := (writeAt vs.toArray off xs).toList
theorem t_store {T : TypeId} {x y : Operand} {b off n : Nat} {vs : List Value} {v : Value} (m : Nat) (hz : ∀ w, (sizeOf T).run P w = .ok n w) (hx : V.ev x = some (boxP b off)) (hy : V.ev y = some v)
    (hm : H[m]? = some (box b vs)) (hn : v.cells.size = n) (hl : off + n ≤ vs.length) (h1 : ∀ u ∈ v.cells.toList, u.oneCell' = true) :
    OpT P ⟨d, .store T x y, ty, pos, af, g⟩ V H (fun v' H' => v' = undef ∧ H' = H.set m (box b (wrL vs off v.cells.toList))) := by
  intro ρ w o hf hbd hs
  obtain ⟨e1, e2, T', fz, e3, e4⟩ := hs m _ hm
  obtain ⟨w', h2, h3⟩ := run_storeCells (P := P) v.cells.toList 0 vs.toArray w e3 (.inl e4) (off := off) (by simp; omega) h1
  have hrun : (execOp ρ ⟨d, .store T x y, ty, pos, af, g⟩).run P w = .ok .skip w' := by
    simp [execOp, hf x _ hx, hf y _ hy, Instr.storeAt, Instr.sureAddr, boxP, storeVar, hz, hn, h2]
  unfold Does
  rw [hrun]
  refine ⟨_, o, ⟨rfl, rfl⟩, fun b' hb' => hbd b' (by rw [h3.size] at hb'; exact hb'), ⟨h3.os, h3.tape, h3.output, by rw [h3.size]; exact Nat.le_refl _, fun b' hlt hb' => ⟨hb', h3.other b' ?_⟩, fun b' hlt hb' => ⟨hb', h3.other b' ?_⟩⟩, ?_⟩
  · rintro rfl; rw [e1] at hb'; cases hb'
  · rintro rfl; rw [e1] at hb'; cases hb'
  · refine sats_upd (by rw [h3.size]; exact Nat.le_refl _) (fun b' hlt hb' => ⟨rfl, h3.other b' ?_⟩) hs ⟨e1, by rw [h3.size]; exact e2, T', fz, ?_, e4⟩
    · rintro rfl; exact hb' e1
    · rw [h3.here]; simp [wrL]

/-- a new variable, zero -/
theorem t_alloc {T : TypeId} {z : Value} (hz : ∀ w, (zeroValue T).run P w = .ok z w) :
    OpT P ⟨d, .alloc T, ty, pos, af, g⟩ V H (fun v' H' => ∃ b, v' = boxP b 0 ∧ H' = H ++ [box b z.cells.toList]) := by
  intro ρ w o hf hbd hs
  have hn := nw_push w (.cells z.cells T) w.drawn
  have hrun : (execOp ρ ⟨d, .alloc T, ty, pos, af, g⟩).run P w = .ok (.value (boxP w.heap.size 0)) { w with heap := w.heap.push (.cells z.cells T) } := by
    simp [execOp, Instr.alloc, hz, newVar, newRow, boxP]
  unfold Does
  rw [hrun]
  obtain ⟨h1, h2, h3⟩ := sats_new (g := box w.heap.size z.cells.toList) hbd hn hs ⟨by simp [addOwn], by rw [hn.size]; omega, T, (0, 0), by rw [hn.here], by simp⟩
  exact ⟨_, _, ⟨w.heap.size, rfl, rfl⟩, h1, h2, h3⟩
theorem t_box {T : TypeId} {x : Operand} {v : Value} (hx : V.ev x = some v) :
    OpT P ⟨d, .box T x, ty, pos, af, g⟩ V H (fun v' H' => ∃ b, v' = boxP b 0 ∧ H' = H ++ [box b v.cells.toList]) := by
  intro ρ w o hf hbd hs
  have hn := nw_push w (.cells v.cells T) w.drawn
  have hrun : (execOp ρ ⟨d, .box T x, ty, pos, af, g⟩).run P w = .ok (.value (boxP w.heap.size 0)) { w with heap := w.heap.push (.cells v.cells T) } := by
    simp [execOp, Instr.box, hf x _ hx, newVar, newRow, boxP]
  unfold Does
  rw [hrun]
  obtain ⟨h1, h2, h3⟩ := sats_new (g := box w.heap.size v.cells.toList) hbd hn hs ⟨by simp [addOwn], by rw [hn.size]; omega, T, (0, 0), by rw [hn.here], by simp⟩
  exact ⟨_, _, ⟨w.heap.size, rfl, rfl⟩, h1, h2, h3⟩

theorem flat_get {es : Nat} : ∀ (cells : List (List Value)), (∀ c ∈ cells, c.length = es) → ∀ (j : Nat) (x : Value), cells.flatten[j]? = some x →
    ∃ (i j' : Nat) (c : List Value), cells[i]? = some c ∧ c[j']? = some x ∧ j = i * es + j'
  | [], _, j, x, h => by simp at h
  | c :: r, hl, j, x, h => by
    have hc := hl c (List.mem_cons_self ..)
    rw [List.flatten_cons, List.getElem?_append] at h
    split at h
    · exact ⟨0, j, c, rfl, h, by omega⟩
    · obtain ⟨i, j', c', h1, h2, h3⟩ := flat_get r (fun y hy => hl y (List.mem_cons_of_mem _ hy)) _ _ h
      refine ⟨i + 1, j', c', by simpa using h1, h2, ?_⟩
      rw [Nat.succ_mul]; omega
theorem flat_len {es : Nat} : ∀ (cells : List (List Value)), (∀ c ∈ cells, c.length = es) → cells.flatten.length = cells.length * es
  | [], _ => by simp
  | c :: r, hl => by
    rw [List.flatten_cons, List.length_append, flat_len r (fun y hy => hl y (List.mem_cons_of_mem _ hy)), hl c (List.mem_cons_self ..), List.length_cons, Nat.succ_mul]; omega
theorem flat_at {es : Nat} : ∀ (cells : List (List Value)), (∀ c ∈ cells, c.length = es) → ∀ (i j : Nat) (c : List Value) (x : Value), cells[i]? = some c → c[j]? = some x → cells.flatten[i * es + j]? = some x
  | [], _, i, j, c, x, h, _ => by simp at h
  | c0 :: r, hl, 0, j, c, x, h, hx => by
    simp at h; subst h
    rw [List.flatten_cons, List.getElem?_append, if_pos (by have := (List.getElem?_eq_some_iff.1 hx).1; omega)]
    simpa using hx
  | c0 :: r, hl, i + 1, j, c, x, h, hx => by
    have hc := hl c0 (List.mem_cons_self ..)
    rw [List.flatten_cons, List.getElem?_append, if_neg (by rw [Nat.succ_mul]; omega)]
    have := flat_at r (fun y hy => hl y (List.mem_cons_of_mem _ hy)) i j c x (by simpa using h) hx
    rw [← this]; congr 1; rw [Nat.succ_mul]; omega

/-- the parts of a literal slice, in order -/
def zipFrom : Nat → List Value → List (Nat × Value)
  | _, [] => []
  | i, v :: vs => (i, v) :: zipFrom (i + 1) vs

theorem writeAt_append : ∀ (xs ys : List Value) (arr : Array Value) (n : Nat), writeAt (writeAt arr n xs) (n + xs.length) ys = writeAt arr n (xs ++ ys)
  | [], _, _, _ => rfl
  | x :: xs, ys, arr, n => by
    simp only [List.cons_append, writeAt, List.length_cons]
    rw [← writeAt_append xs ys, show n + 1 + xs.length = n + (xs.length + 1) by omega]
theorem foldl_write (off : Nat) : ∀ (l : List Value) (i : Nat) (arr : Array Value), (l.zipIdx i).foldl (fun cs (c, j) => cs.setIfInBounds (off + j) c) arr = writeAt arr (off + i) l
  | [], _, _ => rfl
  | c :: l, i, arr => by
    simp only [List.zipIdx_cons, List.foldl_cons, writeAt]
    rw [foldl_write off l (i + 1)]; rfl
theorem fill_lit {es : Nat} : ∀ (vs : List Value) (i : Nat) (arr : Array Value), arr.size = (i + vs.length) * es → (∀ v ∈ vs, v.cells.size = es) →
    Instr.fill (fun i => some (i * es, es)) arr (zipFrom i vs) = some (writeAt arr (i * es) (vs.flatMap fun v => v.cells.toList))
  | [], i, arr, _, _ => rfl
  | v :: vs, i, arr, h, hv => by
    have h0 := hv v (List.mem_cons_self ..)
    simp only [List.length_cons] at h
    have hle : i * es + es ≤ arr.size := by rw [h, ← Nat.succ_mul]; exact Nat.mul_le_mul_right _ (by omega)
    simp only [zipFrom, Instr.fill, h0]
    rw [if_neg (by simp; omega)]
    have hfold : v.cells.zipIdx.foldl (fun cs (x : Value × Nat) => cs.setIfInBounds (i * es + x.2) x.1) arr = writeAt arr (i * es) v.cells.toList := by
      rw [← Array.foldl_toList, Array.toList_zipIdx]
      exact foldl_write (i * es) v.cells.toList 0 arr
    rw [hfold, fill_lit vs (i + 1) _ (by rw [size_writeAt, h]; congr 1; omega) (fun x hx => hv x (List.mem_cons_of_mem _ hx))]
    rw [List.flatMap_cons, ← writeAt_append, Array.length_toList, h0, Nat.succ_mul]

/-- a literal slice -/
theorem t_lit {T el : TypeId} {n es : Nat} {parts : Array (Nat × Operand)} {z : Value} (vs : List Value) (hu : ∀ w, (underlying T).run P w = .ok (.slice el) w)
    (hz : ∀ w, (sizeOf el).run P w = .ok es w) (h0 : ∀ w, (zeroValue el).run P w = .ok z w) (hp : parts.toList.map (fun p => (p.1, V.ev p.2)) = (zipFrom 0 vs).map (fun p => (p.1, some p.2)))
    (hsz : n * es ≤ 2 ^ 24) (hn24 : n ≤ 2 ^ 24) (hn : vs.length = n) (hv : ∀ v ∈ vs, v.cells.size = es) :
    OpT P ⟨d, .buildSlice T n parts, ty, pos, af, g⟩ V H (fun v' H' => H' = H ++ [row v' es (vs.map fun v => v.cells.toList)] ∧ v' ≠ .slice none 0 0) := by
  intro ρ w o hf hbd hs
  obtain ⟨cells, hcells⟩ : ∃ cells, cells = vs.map fun v => v.cells.toList := ⟨_, rfl⟩
  have hc : ∀ c ∈ cells, c.length = es := by
    intro c hc
    rw [hcells] at hc
    obtain ⟨v, hvm, rfl⟩ := List.mem_map.1 hc
    rw [Array.length_toList]; exact hv v hvm
  have hcl : cells.length = n := by rw [hcells, List.length_map, hn]
  have hfill : Instr.fill (fun i => some (i * es, es)) ((Array.range (n * es)).map (z.cells[· % z.cells.size]!)) (zipFrom 0 vs) = some cells.flatten.toArray := by
    have hfl := flat_len cells hc
    have hfm : (vs.flatMap fun v => v.cells.toList) = cells.flatten := by rw [hcells]; simp [List.flatMap]
    rw [fill_lit vs 0 _ (by simp [hn]) hv, hfm]
    congr 1
    apply Array.ext_getElem?
    intro m
    rw [Nat.zero_mul, get_writeAt _ _ _ _ (by simp [hfl, hcl])]
    by_cases hm : m < cells.flatten.length
    · rw [if_pos ⟨Nat.zero_le _, by omega⟩]; simp
    · rw [if_neg (by omega), Array.getElem?_eq_none (by simp; rw [hfl, hcl] at hm; omega), Array.getElem?_eq_none (by simp at hm ⊢; omega)]
  rw [← hcells]
  have hn' := nw_push w (.cells cells.flatten.toArray el) w.drawn
  have hpv : parts.toList.map (fun x => (x.fst, ρ x.snd)) = zipFrom 0 vs := by
    generalize parts.toList = l at hp
    generalize zipFrom 0 vs = pv at hp
    induction l generalizing pv with
    | nil => cases pv <;> simp_all
    | cons p r ih =>
      cases pv with
      | nil => simp at hp
      | cons q pv =>
        simp only [List.map_cons, List.cons.injEq, Prod.mk.injEq] at hp ⊢
        obtain ⟨⟨h1, h2⟩, h3⟩ := hp
        exact ⟨by rw [h1, hf _ _ h2], ih _ h3⟩
  have hrun : (execOp ρ ⟨d, .buildSlice T n parts, ty, pos, af, g⟩).run P w = .ok (.value (.slice (some ⟨w.heap.size, 0, none⟩) n n)) { w with heap := w.heap.push (.cells cells.flatten.toArray el) } := by
    by_cases hne : n * es = 0
    · rw [hne] at hfill
      simp [execOp, Instr.buildSlice, hu, hz, hne, hpv]
      have e0 : Array.map (fun _ => (default : Value)) (Array.range 0) = (Array.range 0).map (z.cells[· % z.cells.size]!) := by apply Array.ext <;> simp
      rw [e0, hfill]
      simp [newRow]
    · simp [execOp, Instr.buildSlice, hu, hz, h0, Nat.not_lt.2 hsz, hne, hpv]
      simp [hfill, newRow]
  unfold Does
  rw [hrun]
  have hrow : RowIs { w with heap := w.heap.push (.cells cells.flatten.toArray el) } (fun b => addOwn o w.heap.size H.length b = .mine H.length) (.slice (some ⟨w.heap.size, 0, none⟩) n n) es cells := by
    refine .inr ⟨w.heap.size, 0, n, cells.flatten.toArray, el, (0, 0), by rw [hcl], by simp [addOwn], by simp, by simp, .inl (Nat.le_refl _), by simp [flat_len cells hc, hcl], by omega, ?_, hc, ?_⟩
    · unfold maxLen; omega
    · intro i c hi j x hj
      rw [Nat.zero_add]
      simpa using flat_at cells hc i j c x hi hj
  obtain ⟨h1, h2, h3⟩ := sats_new (g := row (.slice (some ⟨w.heap.size, 0, none⟩) n n) es cells) hbd hn' hs hrow
  exact ⟨_, _, ⟨rfl, by simp⟩, h1, h2, h3⟩
end writes
end Go.Abs
namespace Go.Abs

variable {k : List KI} {V : VF} {H : List HA}

theorem SliceIs.uni {w : World} {B : Nat → Prop} {v : Value} {es : Nat} {cells : List (List Value)} (h : SliceIs w B v es cells) : ∀ c ∈ cells, c.length = es := by
  intro c hc
  obtain ⟨i, hi⟩ := List.getElem?_of_mem hc
  exact (h.elem hi).1

theorem run_firstCells {P : Program} {w : World} {B : Nat → Prop} {v : Value} {es : Nat} {cells : List (List Value)} (h : SliceIs w B v es cells) :
    (Builtin.lenOf v).run P w = .ok cells.length w ∧ (Builtin.firstCells es cells.length v).run P w = .ok cells.flatten.toArray w := by
  have hu := h.uni
  have hl := flat_len cells hu
  cases hc : cells with
  | nil =>
    subst hc
    obtain ⟨a, cap, e1, _⟩ := h
    subst e1
    refine ⟨by simp [Builtin.lenOf], ?_⟩
    cases a <;> simp [Builtin.firstCells, loadCells, loadCellsFrom]
  | cons c0 r =>
    rw [← hc]
    obtain ⟨_, b, off, cap, e1, _⟩ := h.elem (i := 0) (c := c0) (by simp [hc])
    have hload : ∀ (j : Nat) (x : Value), cells.flatten[j]? = some x → w.cell? ⟨b, off + j, none⟩ = some x := by
      intro j x hj
      obtain ⟨i, j', c, h1, h2, h3⟩ := flat_get cells hu j x hj
      obtain ⟨_, b', off', cap', e3, e4⟩ := h.elem h1
      rw [e1] at e3
      simp only [Value.slice.injEq, Option.some.injEq, Addr.mk.injEq, and_true] at e3
      obtain ⟨⟨rfl, rfl⟩, _⟩ := e3
      have := e4 j' x h2
      rw [h3, show off + (i * es + j') = off + i * es + j' by omega]
      exact this
    have := run_loadCells (P := P) b off _ hload
    rw [hl] at this
    rw [e1]
    refine ⟨by simp [Builtin.lenOf], ?_⟩
    simp only [Builtin.firstCells]
    exact this

/-- what is appended -/
def Src (P : Program) (H : List HA) (v : Value) (es : Nat) (new : List (List Value)) : Prop :=
  (∀ c ∈ new, c.length = es ∧ ∀ u ∈ c, u.oneCell' = true) ∧
  ∀ w o, Sats w o H → (Builtin.lenOf v).run P w = .ok new.length w ∧ (Builtin.firstCells es new.length v).run P w = .ok new.flatten.toArray w
theorem src_reads {P : Program} {v : Value} {es : Nat} {new : List (List Value)} {h : HA} (m : Nat) (hm : H[m]? = some h) (hr : Reads h v es new)
    (hc : ∀ c ∈ new, c.length = es ∧ ∀ u ∈ c, u.oneCell' = true) : Src P H v es new :=
  ⟨hc, fun w o hs => run_firstCells (hr.is w o m (hs m h hm))⟩
theorem u8c_ok (l : List UInt8) : ∀ c ∈ u8c l, c.length = 1 ∧ ∀ u ∈ c, u.oneCell' = true := by
  intro c hc
  simp only [u8c, List.mem_map] at hc
  obtain ⟨b, _, rfl⟩ := hc
  simp [Value.oneCell']
theorem u8c_flat (l : List UInt8) : (u8c l).flatten = l.map fun b => Value.int .u8 b.toNat := by
  induction l with
  | nil => rfl
  | cons b r ih => simp only [u8c, List.map_cons, List.flatten_cons] at ih ⊢; rw [ih]; rfl
theorem src_str {P : Program} (l : List UInt8) : Src P H (.string (bs l)) 1 (u8c l) := by
  refine ⟨u8c_ok l, fun w o _ => ⟨by simp [Builtin.lenOf, bs_size, u8c], ?_⟩⟩
  have : (bs l).extract 0 l.length = bs l := by
    rw [← bs_size l]; exact ByteArray.extract_zero_size
  simp [Builtin.firstCells, u8c_flat, show (u8c l).length = l.length by simp [u8c], this]
  simp [bs]
theorem growBy_le {n : Nat} : ∀ (r c : Nat), c ≤ n + (n + 768) / 4 → Builtin.growBy n r c ≤ n + (n + 768) / 4
  | 0, c, h => h
  | r + 1, c, h => by
    unfold Builtin.growBy
    split
    · exact h
    · exact growBy_le r _ (by omega)
theorem nextcap_le {n c : Nat} (h : c < n) : Builtin.nextslicecap n c ≤ 2 * n + 1000 := by
  unfold Builtin.nextslicecap
  split
  · omega
  · split
    · omega
    · have := growBy_le (n := n) 4 c (by omega); omega

def dropO (x : Ow) (m : Nat) : Ow := match x with | .mine k => if k = m then .no else .mine k | x => x
theorem dropO_ne {x : Ow} {m : Nat} (h : x ≠ .mine m) : dropO x m = x := by
  cases x with
  | mine k =>
    have : k ≠ m := fun e => h (e ▸ rfl)
    simp [dropO, this]
  | no => rfl
  | far => rfl
/-- block b is m's now, what was m's is nobody's -/
def swapOwn (o : Own) (b m : Nat) : Own := fun x => if x = b then .mine m else dropO (o x) m

section append
variable {P : Program} {d : Option Nat} {ty : TypeId} {pos : String} {af : Array Edge} {g : Option (Nat × Bool)}

theorem zeroCells_size (z : Array Value) (n : Nat) : (Builtin.zeroCells z n).size = n * z.size := by simp [Builtin.zeroCells]

theorem row_append_here {w w' : World} {M : Nat → Prop} {b off cap es : Nat} {arr : Array Value} {T : TypeId} {fz : Nat × Nat} {cells new : List (List Value)} (hM : M b) (hb : b < w'.heap.size)
    (hw : Wr w b (.cells (writeAt arr (off + cells.length * es) new.flatten) T fz) w') (h5 : fz.2 ≤ fz.1 ∨ arr.size ≤ fz.1) (h6 : arr.size = off + cap * es) (h7 : cells.length + new.length ≤ cap) (h8 : cap ≤ maxLen)
    (h9 : ∀ c ∈ cells, c.length = es) (hn : ∀ c ∈ new, c.length = es)
    (h10 : ∀ (i : Nat) (c : List Value), cells[i]? = some c → ∀ (j : Nat) (x : Value), c[j]? = some x → arr[off + i * es + j]? = some x) :
    RowIs w' M (.slice (some ⟨b, off, none⟩) (cells.length + new.length) cap) es (cells ++ new) := by
  have hfl := flat_len new hn
  have hroom : off + cells.length * es + new.flatten.length ≤ arr.size := by
    rw [hfl, h6, Nat.add_assoc, ← Nat.add_mul]
    exact Nat.add_le_add_left (Nat.mul_le_mul_right _ h7) _
  refine .inr ⟨b, off, cap, _, T, fz, by simp, hM, hb, hw.here, by rw [size_writeAt]; exact h5, by rw [size_writeAt]; exact h6, by simpa using h7, h8, ?_, ?_⟩
  · intro c hc
    rcases List.mem_append.1 hc with hc | hc
    · exact h9 c hc
    · exact hn c hc
  · intro i c hi j x hj
    rw [get_writeAt _ _ _ _ hroom]
    rw [List.getElem?_append] at hi
    split at hi
    · rename_i hlt
      have hjl : j < es := by have := h9 c (List.mem_of_getElem? hi); have := (List.getElem?_eq_some_iff.1 hj).1; omega
      have hle : (i + 1) * es ≤ cells.length * es := Nat.mul_le_mul_right _ hlt
      rw [Nat.succ_mul] at hle
      rw [if_neg (by omega)]
      exact h10 i c hi j x hj
    · rename_i hge
      have hjl : j < es := by have := hn c (List.mem_of_getElem? hi); have := (List.getElem?_eq_some_iff.1 hj).1; omega
      have hlt' := (List.getElem?_eq_some_iff.1 hi).1
      have e1 : i * es = cells.length * es + (i - cells.length) * es := by rw [← Nat.add_mul]; congr 1; omega
      have hle : (i - cells.length + 1) * es ≤ new.length * es := Nat.mul_le_mul_right _ hlt'
      rw [Nat.succ_mul] at hle
      rw [if_pos (by omega)]
      have := flat_at new hn (i - cells.length) j c x hi hj
      rw [← this]; congr 1; omega

theorem row_append_new {w : World} {M : Nat → Prop} {es c' : Nat} {T : TypeId} {z : Array Value} {cells new : List (List Value)} (hz : z.size = es) {w' : World}
    (hw : Nw w (.cells (cells.flatten.toArray ++ new.flatten.toArray ++ Builtin.zeroCells z (c' - (cells.length + new.length))) T) w') (hM : M w.heap.size) (hle : cells.length + new.length ≤ c') (h8 : c' ≤ maxLen)
    (h9 : ∀ c ∈ cells, c.length = es) (hn : ∀ c ∈ new, c.length = es) :
    RowIs w' M (.slice (some ⟨w.heap.size, 0, none⟩) (cells.length + new.length) c') es (cells ++ new) := by
  have h1 := flat_len cells h9
  have h2 := flat_len new hn
  have hall : ∀ c ∈ cells ++ new, c.length = es := by
    intro c hc
    rcases List.mem_append.1 hc with hc | hc
    · exact h9 c hc
    · exact hn c hc
  refine .inr ⟨w.heap.size, 0, c', _, T, (0, 0), by simp, hM, by rw [hw.size]; omega, hw.here, .inl (Nat.le_refl _), ?_, by simpa using hle, h8, hall, ?_⟩
  · simp only [Array.size_append, List.size_toArray, h1, h2, zeroCells_size, hz, Nat.zero_add]
    rw [← Nat.add_mul, ← Nat.add_mul]; congr 1; omega
  · intro i c hi j x hj
    have := flat_at (cells ++ new) hall i j c x hi hj
    rw [List.flatten_append] at this
    have hlt := (List.getElem?_eq_some_iff.1 this).1
    rw [Nat.zero_add, Array.getElem?_append, if_pos (by simpa using hlt)]
    simpa using this

theorem storeCells_nil {a : Addr} {w : World} : (storeCells a []).run P w = .ok () w := by simp [storeCells]
set_option maxHeartbeats 1000000 in
theorem t_append {Ts : Array TypeId} {T T2 el : TypeId} {ds2 : TypeDesc} {es : Nat} {x y : Operand} {v vy z : Value} {ti : TypeInfo} {cells new : List (List Value)} (m : Nat)
    (hT : Ts[0]? = some T) (hu : ∀ w, (underlying T).run P w = .ok (.slice el) w) (hT2 : Ts[1]? = some T2) (hu2 : ∀ w, (underlying T2).run P w = .ok ds2 w) (hni : ds2 = .string ∨ ∃ e, ds2 = .slice e)
    (hti : ∀ w, (typeInfo el).run P w = .ok ti w) (hes : ti.size = es) (hby : ti.bytes ≠ 0) (h0 : ∀ w, (zeroValue el).run P w = .ok z w) (hzs : z.cells.size = es)
    (hx : V.ev x = some v) (hm : H[m]? = some (row v es cells)) (hy : V.ev y = some vy) (hsrc : Src P H vy es new) (hcap : (2 * (cells.length + new.length) + 1000) * ti.bytes ≤ 2 ^ 48) (hlen : cells.length + new.length ≤ maxLen) :
    OpT P ⟨d, .call ⟨.builtin .append, #[x, y], Ts⟩, ty, pos, af, g⟩ V H (fun v' H' => H' = H.set m (row v' es (cells ++ new))) := by
  intro ρ w o hf hbd hs
  have hrow := hs m _ hm
  have hsl := RowIs.slice (B := fun b => o b = .mine m) (fun _ h => h) hrow
  obtain ⟨hs1, hs2⟩ := run_firstCells (P := P) hsl
  have huni := hsl.uni
  obtain ⟨hnew, hsrc⟩ := hsrc
  obtain ⟨hn1, hn2⟩ := hsrc w o hs
  have hnu : ∀ c ∈ new, c.length = es := fun c hc => (hnew c hc).1
  have hone : ∀ u ∈ new.flatten, u.oneCell' = true := fun u hu => by
    obtain ⟨c, hc, hu⟩ := List.mem_flatten.1 hu
    exact (hnew c hc).2 u hu
  obtain ⟨a, cap, e1, e2, e3, e4, _⟩ := id hsl
  have hsz : ∀ w, (sizeOf el).run P w = .ok es w := fun w => by simp [sizeOf, hti, hes]
  -- the run
  by_cases hroom : cells.length + new.length ≤ cap
  · -- in place
    rcases hrow with ⟨r1, r2⟩ | ⟨b, off, cap', arr, T', fz, r1, r2, r3, r4, r5, r6, r7, r8, r9, r10⟩
    · -- nil: nothing is appended
      have hcap0 : cap = 0 := by obtain ⟨a', r1⟩ := r1; rw [e1] at r1; simp at r1; exact r1.2.2
      subst r2
      have hnil : new = [] := by cases new with | nil => rfl | cons _ _ => simp at hroom; omega
      subst hnil
      have hrun : (execOp ρ ⟨d, .call ⟨.builtin .append, #[x, y], Ts⟩, ty, pos, af, g⟩).run P w = .ok (.value v) w := by
        rw [e1] at hx
        subst hcap0
        simp at hn1 hn2 hx
        cases a <;> rcases hni with rfl | ⟨e, rfl⟩ <;> simp [execOp, resolve, invoke, builtin, hf x _ hx, hf y _ hy, Builtin.append_, hT, hu, hT2, hu2, hsz, hn1, hn2, e1, storeCells_nil, Result.andThen]
      unfold Does
      rw [hrun]
      refine ⟨_, o, rfl, hbd, Tr.refl w o, ?_⟩
      exact sats_upd (Nat.le_refl _) (fun b _ _ => ⟨rfl, rfl⟩) hs (.inl ⟨r1, rfl⟩)
    · have haa : a = some ⟨b, off, none⟩ ∧ cap = cap' := by rw [e1] at r1; simp at r1; exact r1
      obtain ⟨rfl, rfl⟩ := haa
      have hfl := flat_len new hnu
      have hadd : (Addr.add ⟨b, off, none⟩ (cells.length * es)) = ⟨b, off + cells.length * es, none⟩ := by unfold Addr.add; split <;> simp_all
      obtain ⟨w', h2, h3⟩ := run_storeCells (P := P) new.flatten 0 arr w r4 r5 (off := off + cells.length * es)
        (by rw [hfl, r6, Nat.add_zero, Nat.add_assoc, ← Nat.add_mul]; exact Nat.add_le_add_left (Nat.mul_le_mul_right _ hroom) _) hone
      have hrun : (execOp ρ ⟨d, .call ⟨.builtin .append, #[x, y], Ts⟩, ty, pos, af, g⟩).run P w = .ok (.value (.slice (some ⟨b, off, none⟩) (cells.length + new.length) cap)) w' := by
        rw [e1] at hx
        rcases hni with rfl | ⟨e, rfl⟩ <;> simp [execOp, resolve, invoke, builtin, hf x _ hx, hf y _ hy, Builtin.append_, hT, hu, hT2, hu2, hsz, hn1, hn2, hroom, hadd, h2]
      unfold Does
      rw [hrun]
      refine ⟨_, o, rfl, fun b' hb' => hbd b' (by rw [h3.size] at hb'; exact hb'), ⟨h3.os, h3.tape, h3.output, by rw [h3.size]; exact Nat.le_refl _, fun b' hlt hb' => ⟨hb', h3.other b' ?_⟩, fun b' hlt hb' => ⟨hb', h3.other b' ?_⟩⟩, ?_⟩
      · rintro rfl; rw [r2] at hb'; cases hb'
      · rintro rfl; rw [r2] at hb'; cases hb'
      · refine sats_upd (by rw [h3.size]; exact Nat.le_refl _) (fun b' hlt hb' => ⟨rfl, h3.other b' ?_⟩) hs ?_
        · rintro rfl; exact hb' r2
        · exact row_append_here r2 (by rw [h3.size]; exact r3) (by simpa using h3) r5 r6 hroom r8 r9 hnu r10
  · -- a new block
    have hlt : cap < cells.length + new.length := by omega
    have hnc := nextcap_le hlt
    have hbig : ¬ Builtin.nextslicecap (cells.length + new.length) cap * ti.bytes > 2 ^ 48 := by
      have : Builtin.nextslicecap (cells.length + new.length) cap * ti.bytes ≤ (2 * (cells.length + new.length) + 1000) * ti.bytes := Nat.mul_le_mul_right _ hnc
      omega
    have hq : (Question.appendCap (cells.length + new.length) cap el).forced = false := rfl
    obtain ⟨c', hc'⟩ : ∃ c', c' = (Question.appendCap (cells.length + new.length) cap el).cut (w.tape w.drawn (Question.appendCap (cells.length + new.length) cap el)) := ⟨_, rfl⟩
    have hc1 : cells.length + new.length ≤ c' := by rw [hc']; simp only [Question.cut]; omega
    have hc2 : c' ≤ maxLen := by
      rw [hc']; simp only [Question.cut]; unfold maxLen at hlen ⊢
      have : w.tape w.drawn (Question.appendCap (cells.length + new.length) cap el) % (2 ^ 63 - (cells.length + new.length)) < 2 ^ 63 - (cells.length + new.length) := Nat.mod_lt _ (by omega)
      omega
    have hnw : Nw w (.cells (cells.flatten.toArray ++ new.flatten.toArray ++ Builtin.zeroCells z.cells (c' - (cells.length + new.length))) el)
        (w.drew.alloc (.cells (cells.flatten.toArray ++ new.flatten.toArray ++ Builtin.zeroCells z.cells (c' - (cells.length + new.length))) el)) := nw_push w _ _
    have hs2' : (Builtin.firstCells es cells.length v).run P w.drew = .ok cells.flatten.toArray w.drew := (run_firstCells (P := P) (w := w.drew) hsl).2
    have hn2' : (Builtin.firstCells es new.length vy).run P w.drew = .ok new.flatten.toArray w.drew :=
      (hsrc w.drew o (fun j h hj => h.keep (w := w) (w' := w.drew) (Nat.le_refl _) (fun b _ hb => ⟨hb, rfl⟩) (fun b _ hb => ⟨hb, rfl⟩) (hs j h hj))).2
    have hrun : (execOp ρ ⟨d, .call ⟨.builtin .append, #[x, y], Ts⟩, ty, pos, af, g⟩).run P w = .ok (.value (.slice (some ⟨w.heap.size, 0, none⟩) (cells.length + new.length) c'))
        (w.drew.alloc (.cells (cells.flatten.toArray ++ new.flatten.toArray ++ Builtin.zeroCells z.cells (c' - (cells.length + new.length))) el)) := by
      rw [e1] at hx hs2'
      rcases hni with rfl | ⟨e, rfl⟩ <;> simp [execOp, resolve, invoke, builtin, hf x _ hx, hf y _ hy, Builtin.append_, hT, hu, hT2, hu2, hsz, hn1, hroom, hti, hby, hbig, hq, ← hc', hs2', hn2', h0, newRow] <;> (rw [← Array.append_assoc]; simp)
    unfold Does
    rw [hrun]
    have hne : ∀ b, b < w.heap.size → o b ≠ .mine m → swapOwn o w.heap.size m b = o b := fun b hlt hb => by
      simp [swapOwn, Nat.ne_of_lt hlt, dropO_ne hb]
    refine ⟨_, swapOwn o w.heap.size m, rfl, ?_, ?_, ?_⟩
    · intro b hb
      rw [hnw.size] at hb
      have := hbd b (by omega)
      simp only [swapOwn]
      rw [if_neg (by omega), this]
      rfl
    · refine ⟨hnw.os, hnw.tape, hnw.output, by rw [hnw.size]; omega, fun b hlt hb => ⟨?_, hnw.other b hlt⟩, fun b hlt hb => ⟨?_, hnw.other b hlt⟩⟩
      · rw [hne b hlt (by rw [hb]; intro h; cases h)]; exact hb
      · rw [hne b hlt (by rw [hb]; intro h; cases h)]; exact hb
    · refine sats_upd (by rw [hnw.size]; omega) (fun b hlt hb => ⟨hne b hlt hb, hnw.other b hlt⟩) hs ?_
      exact row_append_new hzs hnw (by simp [swapOwn]) hc1 hc2 huni hnu
end append
end Go.Abs
namespace Go.Abs

variable {E : Env} {k : List KI} {V : VF} {H : List HA}

/-! a change of the assertions alone -/
def Turn (H H' : List HA) : Prop := ∀ w o, Bnd w o → Sats w o H → ∃ o', Bnd w o' ∧ Tr w o w o' ∧ Sats w o' H'
theorem Rel.turn {H' : List HA} {a : Act} {w : World} (h : Turn H H') (r : Rel E V H a w) : Rel E V H' a w := by
  obtain ⟨h1, h2, h3, o, hb, ht, hs⟩ := r
  obtain ⟨o', hb', ht', hs'⟩ := h w o hb hs
  exact ⟨h1, h2, h3, o', hb', ht.trans ht', hs'⟩
theorem run_turn {c : Code} {H' : List HA} (h : Turn H H') (hk : Run E c k V H') : Run E c k V H := fun a w r => hk a w (r.turn h)
theorem ops_turn {ops : Array Oper} {l : List Oper} {H' : List HA} (h : Turn H H') (hk : Ops E ops l k V H') : Ops E ops l k V H := fun a w r => hk a w (r.turn h)
theorem goes_turn {H' : List HA} (h : Turn H H') (hk : Goes E k V H') : Goes E k V H := fun a w r => hk a w (r.turn h)
theorem fin_turn {H' : List HA} (h : Turn H H') (hk : Fin E V H') : Fin E V H := fun a w r => hk a w (r.turn h)

def giveUp (o : Own) (m : Nat) : Own := fun b => dropO (o b) m
theorem giveUp_mine {o : Own} {m b : Nat} (h : o b = .mine m) : giveUp o m b = .no := by simp [giveUp, h, dropO]
theorem giveUp_ne {o : Own} {m b : Nat} (h : o b ≠ .mine m) : giveUp o m b = o b := by simp [giveUp, dropO_ne h]
theorem turn_give {m : Nat} {h : HA} {g : HA} (hm : H[m]? = some h) (hg : ∀ w o, h.p w o m → g.p w (giveUp o m) m) : Turn H (H.set m g) := by
  intro w o hb hs
  refine ⟨giveUp o m, fun b hle => by simp [giveUp, hb b hle, dropO], ⟨rfl, rfl, rfl, Nat.le_refl _, fun b _ ho => ⟨?_, rfl⟩, fun b _ ho => ⟨?_, rfl⟩⟩, ?_⟩
  · simp [giveUp, ho, dropO]
  · simp [giveUp, ho, dropO]
  · exact sats_upd (Nat.le_refl _) (fun b _ hne => ⟨giveUp_ne hne, rfl⟩) hs (hg w o (hs m h hm))
/-- a slice of the call's own is only read from now on -/
theorem freeze (m : Nat) {v : Value} {es : Nat} {cells : List (List Value)} (hm : H[m]? = some (row v es cells)) : Turn H (H.set m (ro v es cells)) :=
  turn_give hm fun _ _ hp => SliceIs.keep (Nat.le_refl _) (fun _ _ hb => ⟨giveUp_mine hb, rfl⟩) (RowIs.slice (fun _ hb => hb) hp)
theorem turn_add {g : HA} (hg : ∀ w o, Sats w o H → g.p w o H.length) : Turn H (H ++ [g]) := by
  intro w o hb hs
  refine ⟨o, hb, Tr.refl w o, ?_⟩
  intro j h hj
  rw [List.getElem?_append] at hj
  split at hj
  · exact hs j h hj
  · rename_i hlt
    have h0 : j - H.length = 0 := by
      by_cases h0 : j - H.length = 0
      · exact h0
      · rw [show j - H.length = (j - H.length - 1) + 1 by omega] at hj; simp at hj
    rw [h0] at hj
    simp at hj
    subst hj
    obtain rfl : j = H.length := by omega
    exact hg w o hs
/-- nil is a slice of the call's own -/
theorem nilrow (es : Nat) : Turn H (H ++ [row (.slice none 0 0) es []]) := turn_add fun _ _ _ => .inl ⟨⟨none, rfl⟩, rfl⟩
/-- other words for the same cells -/
theorem retell (m : Nat) {h g : HA} (hm : H[m]? = some h) (e : h = g) : Turn H (H.set m g) := by
  subst e
  intro w o hb hs
  exact ⟨o, hb, Tr.refl w o, sats_upd (Nat.le_refl _) (fun b _ _ => ⟨rfl, rfl⟩) hs (hs m h hm)⟩

/-- a bound of a slice expression -/
def Bd (V : VF) (x : Option Operand) (dflt n : Nat) : Prop := (x = none ∧ n = dflt) ∨ ∃ y kd, x = some y ∧ V.ev y = some (.int kd (n : Int))
theorem run_bound {P : Program} {w : World} {kd : IntKind} {n m : Nat} {c : BoundsCode} (h : n ≤ m) : (Instr.sliceBound (.int kd (n : Int)) m c).run P w = .ok n w := by
  simp [Instr.sliceBound, asIntOf, h]

theorem SliceIs.sub {w : World} {B : Nat → Prop} {a : Option Addr} {n cap es : Nat} {cells : List (List Value)} (h : SliceIs w B (.slice a n cap) es cells) {l r mx : Nat} (h1 : l ≤ r) (h2 : r ≤ cells.length) (h3 : r ≤ mx) (h4 : mx ≤ cap) :
    SliceIs w B (.slice (if mx = l then a else a.map (·.add (l * es))) (r - l) (mx - l)) es ((cells.take r).drop l) := by
  obtain ⟨a', cap', e1, e2, e3, e4, e5⟩ := h
  simp only [Value.slice.injEq] at e1
  obtain ⟨rfl, rfl, rfl⟩ := e1
  have hlen : ((cells.take r).drop l).length = r - l := by simp; omega
  refine ⟨_, mx - l, by rw [hlen], by rw [hlen]; omega, by omega, ?_, ?_⟩
  · intro hn
    have : a = none := by
      split at hn
      · exact hn
      · simpa using hn
    have := e4 this
    omega
  · intro i c hi
    have hi' : cells[l + i]? = some c := by
      rw [List.getElem?_drop, List.getElem?_take] at hi
      split at hi
      · exact hi
      · simp at hi
    have hlt : i < r - l := by
      have := (List.getElem?_eq_some_iff.1 hi).1
      omega
    obtain ⟨f1, b, off, f2, f3, f4, f5⟩ := e5 (l + i) c hi'
    refine ⟨f1, b, off + l * es, ?_, f3, f4, fun j x hj => ?_⟩
    · rw [if_neg (by omega), f2]
      simp only [Option.map_some, Addr.add]
      split
      · rename_i h0; rw [h0]; rfl
      · rfl
    · have := f5 j x hj
      rw [← this, Nat.add_mul]; congr 2; omega

section slices
variable {P : Program} {d : Option Nat} {ty : TypeId} {pos : String} {af : Array Edge} {g : Option (Nat × Bool)}

theorem run_slice {T el : TypeId} {ρ : Operand → Value} {w : World} {lo hi mx : Option Operand} {a : Option Addr} {n cap es l r : Nat} (hu : ∀ w, (underlying T).run P w = .ok (.slice el) w)
    (hz : ∀ w, (sizeOf el).run P w = .ok es w) (hf : Fits V ρ) (hl : Bd V lo 0 l) (hr : Bd V hi n r) (hm : mx = none) (h1 : l ≤ r) (h2 : r ≤ n) (h3 : n ≤ cap) :
    (Instr.sliceAt T (.slice a n cap) (lo.map ρ) (hi.map ρ) (mx.map ρ)).run P w = .ok (.slice (if cap = l then a else a.map (·.add (l * es))) (r - l) (cap - l)) w := by
  subst hm
  rcases hl with ⟨rfl, rfl⟩ | ⟨y, kd, rfl, hy⟩ <;> rcases hr with ⟨rfl, rfl⟩ | ⟨y', kd', rfl, hy'⟩ <;>
    simp [Instr.sliceAt, Instr.slice, hu, hz, Instr.sliceBounds]
  · rw [hf _ _ hy', run_bound (by omega)]; simp
  · rw [hf _ _ hy, run_bound (by omega)]; simp
  · rw [hf _ _ hy', run_bound (by omega)]; simp; rw [hf _ _ hy, run_bound (by omega)]; simp
end slices

/-! calls by contract -/
def HA.Strict (g : HA) : Prop := ∀ w o k o' k', (∀ b, b < w.heap.size → o b = .mine k → o' b = .mine k') → g.p w o k → g.p w o' k'
theorem strict_row {v : Value} {es : Nat} {cells : List (List Value)} : (row v es cells).Strict :=
  fun _ _ _ _ _ h hp => RowIs.keep (Nat.le_refl _) (fun b hlt hb => ⟨h b hlt hb, rfl⟩) hp
theorem strict_box {b : Nat} {vs : List Value} : (box b vs).Strict :=
  fun _ _ _ _ _ h ⟨e1, e2, e3⟩ => ⟨h b e2 e1, e2, e3⟩

/-- 'h'', at place m, shows the callee 'h' (row: the callee may look into a block of the caller's own) -/
def Views (h' h : HA) (look : Bool) : Prop := ∀ w o m oc j, (∀ b, b < w.heap.size → o b = .no → oc b = .no) → (look = true → ∀ b, b < w.heap.size → o b = .mine m → oc b = .no) → h'.p w o m → h.p w oc j
theorem views_ro {v : Value} {es : Nat} {cells : List (List Value)} : Views (ro v es cells) (ro v es cells) false :=
  fun _ _ _ _ _ h _ hp => SliceIs.keep (Nat.le_refl _) (fun b hlt hb => ⟨h b hlt hb, rfl⟩) hp
theorem views_row {v : Value} {es : Nat} {cells : List (List Value)} : Views (row v es cells) (ro v es cells) true :=
  fun _ _ _ _ _ _ h hp => SliceIs.keep (Nat.le_refl _) (fun b hlt hb => ⟨h rfl b hlt hb, rfl⟩) (RowIs.slice (fun _ hb => hb) hp)
end Go.Abs
namespace Go.Abs

theorem wrap_i64 {x : Int} (h1 : -9223372036854775808 ≤ x) (h2 : x ≤ 9223372036854775807) : IntKind.i64.wrap x = x := by
  unfold IntKind.wrap
  simp only [IntKind.signed, IntKind.bits]
  simp
  omega
theorem wrap_u64 {x : Int} (h1 : 0 ≤ x) (h2 : x ≤ 18446744073709551615) : IntKind.u64.wrap x = x := by
  unfold IntKind.wrap
  simp only [IntKind.signed, IntKind.bits]
  simp
  omega
theorem wrap_u8 (x : Int) : IntKind.u8.wrap x = x % 256 := by
  unfold IntKind.wrap
  simp only [IntKind.signed, IntKind.bits]
  simp
theorem qv64 {x : Int} (h1 : -9223372036854775808 ≤ x) (h2 : x ≤ 9223372036854775807) : Value.int .i64 (IntKind.i64.wrap x) = .int .i64 x := by rw [wrap_i64 h1 h2]
variable {V : VF} {H : List HA}
theorem vnil : ∀ x ∈ ([] : List (Nat × Value)), V x.1 = some x.2 := fun _ h => by simp at h
theorem vcons {t : Nat} {v : Value} {l : List (Nat × Value)} (h : V t = some v) (hl : ∀ x ∈ l, V x.1 = some x.2) : ∀ x ∈ (t, v) :: l, V x.1 = some x.2 := by
  intro x hx
  rcases List.mem_cons.1 hx with rfl | hx
  · exact h
  · exact hl x hx
theorem qv1 {t0 : Nat} {a0 : Value} (h0 : V t0 = some a0) : ∀ x ∈ [(t0, a0)], V x.1 = some x.2 := vcons h0 (vnil)
theorem qv2 {t0 t1 : Nat} {a0 a1 : Value} (h0 : V t0 = some a0) (h1 : V t1 = some a1) : ∀ x ∈ [(t0, a0), (t1, a1)], V x.1 = some x.2 := vcons h0 (vcons h1 (vnil))
theorem qv3 {t0 t1 t2 : Nat} {a0 a1 a2 : Value} (h0 : V t0 = some a0) (h1 : V t1 = some a1) (h2 : V t2 = some a2) : ∀ x ∈ [(t0, a0), (t1, a1), (t2, a2)], V x.1 = some x.2 := vcons h0 (vcons h1 (vcons h2 (vnil)))
theorem qv4 {t0 t1 t2 t3 : Nat} {a0 a1 a2 a3 : Value} (h0 : V t0 = some a0) (h1 : V t1 = some a1) (h2 : V t2 = some a2) (h3 : V t3 = some a3) : ∀ x ∈ [(t0, a0), (t1, a1), (t2, a2), (t3, a3)], V x.1 = some x.2 := vcons h0 (vcons h1 (vcons h2 (vcons h3 (vnil))))
theorem qv5 {t0 t1 t2 t3 t4 : Nat} {a0 a1 a2 a3 a4 : Value} (h0 : V t0 = some a0) (h1 : V t1 = some a1) (h2 : V t2 = some a2) (h3 : V t3 = some a3) (h4 : V t4 = some a4) : ∀ x ∈ [(t0, a0), (t1, a1), (t2, a2), (t3, a3), (t4, a4)], V x.1 = some x.2 := vcons h0 (vcons h1 (vcons h2 (vcons h3 (vcons h4 (vnil)))))
theorem qv6 {t0 t1 t2 t3 t4 t5 : Nat} {a0 a1 a2 a3 a4 a5 : Value} (h0 : V t0 = some a0) (h1 : V t1 = some a1) (h2 : V t2 = some a2) (h3 : V t3 = some a3) (h4 : V t4 = some a4) (h5 : V t5 = some a5) : ∀ x ∈ [(t0, a0), (t1, a1), (t2, a2), (t3, a3), (t4, a4), (t5, a5)], V x.1 = some x.2 := vcons h0 (vcons h1 (vcons h2 (vcons h3 (vcons h4 (vcons h5 (vnil))))))
theorem qv7 {t0 t1 t2 t3 t4 t5 t6 : Nat} {a0 a1 a2 a3 a4 a5 a6 : Value} (h0 : V t0 = some a0) (h1 : V t1 = some a1) (h2 : V t2 = some a2) (h3 : V t3 = some a3) (h4 : V t4 = some a4) (h5 : V t5 = some a5) (h6 : V t6 = some a6) : ∀ x ∈ [(t0, a0), (t1, a1), (t2, a2), (t3, a3), (t4, a4), (t5, a5), (t6, a6)], V x.1 = some x.2 := vcons h0 (vcons h1 (vcons h2 (vcons h3 (vcons h4 (vcons h5 (vcons h6 (vnil)))))))
theorem qv8 {t0 t1 t2 t3 t4 t5 t6 t7 : Nat} {a0 a1 a2 a3 a4 a5 a6 a7 : Value} (h0 : V t0 = some a0) (h1 : V t1 = some a1) (h2 : V t2 = some a2) (h3 : V t3 = some a3) (h4 : V t4 = some a4) (h5 : V t5 = some a5) (h6 : V t6 = some a6) (h7 : V t7 = some a7) : ∀ x ∈ [(t0, a0), (t1, a1), (t2, a2), (t3, a3), (t4, a4), (t5, a5), (t6, a6), (t7, a7)], V x.1 = some x.2 := vcons h0 (vcons h1 (vcons h2 (vcons h3 (vcons h4 (vcons h5 (vcons h6 (vcons h7 (vnil))))))))
theorem qv9 {t0 t1 t2 t3 t4 t5 t6 t7 t8 : Nat} {a0 a1 a2 a3 a4 a5 a6 a7 a8 : Value} (h0 : V t0 = some a0) (h1 : V t1 = some a1) (h2 : V t2 = some a2) (h3 : V t3 = some a3) (h4 : V t4 = some a4) (h5 : V t5 = some a5) (h6 : V t6 = some a6) (h7 : V t7 = some a7) (h8 : V t8 = some a8) : ∀ x ∈ [(t0, a0), (t1, a1), (t2, a2), (t3, a3), (t4, a4), (t5, a5), (t6, a6), (t7, a7), (t8, a8)], V x.1 = some x.2 := vcons h0 (vcons h1 (vcons h2 (vcons h3 (vcons h4 (vcons h5 (vcons h6 (vcons h7 (vcons h8 (vnil)))))))))
theorem qv10 {t0 t1 t2 t3 t4 t5 t6 t7 t8 t9 : Nat} {a0 a1 a2 a3 a4 a5 a6 a7 a8 a9 : Value} (h0 : V t0 = some a0) (h1 : V t1 = some a1) (h2 : V t2 = some a2) (h3 : V t3 = some a3) (h4 : V t4 = some a4) (h5 : V t5 = some a5) (h6 : V t6 = some a6) (h7 : V t7 = some a7) (h8 : V t8 = some a8) (h9 : V t9 = some a9) : ∀ x ∈ [(t0, a0), (t1, a1), (t2, a2), (t3, a3), (t4, a4), (t5, a5), (t6, a6), (t7, a7), (t8, a8), (t9, a9)], V x.1 = some x.2 := vcons h0 (vcons h1 (vcons h2 (vcons h3 (vcons h4 (vcons h5 (vcons h6 (vcons h7 (vcons h8 (vcons h9 (vnil))))))))))
theorem qv11 {t0 t1 t2 t3 t4 t5 t6 t7 t8 t9 t10 : Nat} {a0 a1 a2 a3 a4 a5 a6 a7 a8 a9 a10 : Value} (h0 : V t0 = some a0) (h1 : V t1 = some a1) (h2 : V t2 = some a2) (h3 : V t3 = some a3) (h4 : V t4 = some a4) (h5 : V t5 = some a5) (h6 : V t6 = some a6) (h7 : V t7 = some a7) (h8 : V t8 = some a8) (h9 : V t9 = some a9) (h10 : V t10 = some a10) : ∀ x ∈ [(t0, a0), (t1, a1), (t2, a2), (t3, a3), (t4, a4), (t5, a5), (t6, a6), (t7, a7), (t8, a8), (t9, a9), (t10, a10)], V x.1 = some x.2 := vcons h0 (vcons h1 (vcons h2 (vcons h3 (vcons h4 (vcons h5 (vcons h6 (vcons h7 (vcons h8 (vcons h9 (vcons h10 (vnil)))))))))))
theorem qv12 {t0 t1 t2 t3 t4 t5 t6 t7 t8 t9 t10 t11 : Nat} {a0 a1 a2 a3 a4 a5 a6 a7 a8 a9 a10 a11 : Value} (h0 : V t0 = some a0) (h1 : V t1 = some a1) (h2 : V t2 = some a2) (h3 : V t3 = some a3) (h4 : V t4 = some a4) (h5 : V t5 = some a5) (h6 : V t6 = some a6) (h7 : V t7 = some a7) (h8 : V t8 = some a8) (h9 : V t9 = some a9) (h10 : V t10 = some a10) (h11 : V t11 = some a11) : ∀ x ∈ [(t0, a0), (t1, a1), (t2, a2), (t3, a3), (t4, a4), (t5, a5), (t6, a6), (t7, a7), (t8, a8), (t9, a9), (t10, a10), (t11, a11)], V x.1 = some x.2 := vcons h0 (vcons h1 (vcons h2 (vcons h3 (vcons h4 (vcons h5 (vcons h6 (vcons h7 (vcons h8 (vcons h9 (vcons h10 (vcons h11 (vnil))))))))))))
theorem qw6 {t0 t1 t2 t3 t4 t5 : Nat} {a0 a1 a2 a3 a4 a5 : Value} {l : List (Nat × Value)} (h0 : V t0 = some a0) (h1 : V t1 = some a1) (h2 : V t2 = some a2) (h3 : V t3 = some a3) (h4 : V t4 = some a4) (h5 : V t5 = some a5) (hl : ∀ x ∈ l, V x.1 = some x.2) : ∀ x ∈ (t0, a0) :: (t1, a1) :: (t2, a2) :: (t3, a3) :: (t4, a4) :: (t5, a5) :: l, V x.1 = some x.2 := vcons h0 (vcons h1 (vcons h2 (vcons h3 (vcons h4 (vcons h5 (hl))))))
end Go.Abs
namespace Go.Abs

theorem ofInt_nat {n : Nat} (k : Nat) (h : n < 2 ^ k) : (BitVec.ofInt k (n : Int)).toNat = n := by
  simp
  norm_cast
  exact Nat.mod_eq_of_lt h

theorem bitOr_shift {z x n : Nat} (hz : z < 2 ^ n) (h : z + x * 2 ^ n < 2 ^ 64) : bitOr .u64 (z : Int) ((x * 2 ^ n : Nat) : Int) = ((z + x * 2 ^ n : Nat) : Int) := by
  unfold bitOr
  have h1 : z < 2 ^ 64 := by omega
  have h2 : x * 2 ^ n < 2 ^ 64 := by omega
  have e : z ||| x * 2 ^ n = z + x * 2 ^ n := by
    have := Nat.shiftLeft_add_eq_or_of_lt hz x
    rw [Nat.shiftLeft_eq] at this
    rw [Nat.or_comm, ← this, Nat.add_comm]
  rw [BitVec.toNat_or]
  have a1 := ofInt_nat (n := z) IntKind.u64.bits h1
  have a2 := ofInt_nat (n := x * 2 ^ n) IntKind.u64.bits h2
  rw [a1, a2, e, wrap_u64 (by omega) (by omega)]
theorem bitAnd_low {c : Nat} (h : c < 256) : bitAnd .u8 (c : Int) 127 = ((c % 128 : Nat) : Int) := by
  unfold bitAnd
  rw [BitVec.toNat_and]
  have a1 := ofInt_nat (n := c) IntKind.u8.bits h
  have a2 : (BitVec.ofInt IntKind.u8.bits 127).toNat = 127 := rfl
  have e : c &&& 127 = c % 128 := Nat.and_two_pow_sub_one_eq_mod c 7
  rw [a1, a2, e, wrap_u8]
  omega
theorem bitAnd_one {z : Nat} (h : z < 2 ^ 64) : bitAnd .u64 (z : Int) 1 = ((z % 2 : Nat) : Int) := by
  unfold bitAnd
  rw [BitVec.toNat_and]
  have a1 := ofInt_nat (n := z) IntKind.u64.bits h
  have a2 : (BitVec.ofInt IntKind.u64.bits 1).toNat = 1 := rfl
  rw [a1, a2, Nat.and_one_is_mod, wrap_u64 (by omega) (by omega)]
set_option maxRecDepth 20000 in
theorem or128 : ∀ n < 256, n ||| 128 = n % 128 + 128 := by decide
theorem bitOr_high {z : Nat} : bitOr .u8 (((z % 256 : Nat)) : Int) 128 = ((z % 128 + 128 : Nat) : Int) := by
  unfold bitOr
  rw [BitVec.toNat_or]
  have a1 := ofInt_nat (n := z % 256) IntKind.u8.bits (by show _ < 256; omega)
  have a2 : (BitVec.ofInt IntKind.u8.bits 128).toNat = 128 := rfl
  rw [a1, a2, or128 _ (by omega), wrap_u8]
  have : (z % 256) % 128 = z % 128 := by omega
  rw [this]
  omega
/-- the zigzag number of an integer -/
def zig (n : Int) : Nat := if 0 ≤ n then (2 * n).toNat else (-2 * n - 1).toNat
def unzig (z : Nat) : Int := if z % 2 = 1 then -1 - (z / 2 : Nat) else (z / 2 : Nat)
theorem zig_lt {n : Int} (h1 : -9223372036854775808 ≤ n) (h2 : n ≤ 9223372036854775807) : zig n < 2 ^ 64 := by unfold zig; split <;> omega
theorem unzig_zig (n : Int) : unzig (zig n) = n := by unfold unzig zig; split <;> split <;> omega
theorem zig_unzig (z : Nat) : zig (unzig z) = z := by unfold unzig zig; split <;> split <;> omega
theorem unzig_lo {z : Nat} (h : z < 2 ^ 64) : -9223372036854775808 ≤ unzig z := by unfold unzig; split <;> omega
theorem unzig_hi {z : Nat} (h : z < 2 ^ 64) : unzig z ≤ 9223372036854775807 := by unfold unzig; split <;> omega

theorem xor_zig {n : Int} (h1 : -9223372036854775808 ≤ n) (h2 : n ≤ 9223372036854775807) :
    bitXor .u64 (IntKind.u64.wrap (IntKind.u64.wrap n * 2 ^ (min (1 : Int).toNat IntKind.u64.bits))) (IntKind.u64.wrap (n.fdiv (2 ^ (min (63 : Int).toNat IntKind.i64.bits)))) = (zig n : Int) := by
  have e1 : min (1 : Int).toNat IntKind.u64.bits = 1 := rfl
  have e2 : min (63 : Int).toNat IntKind.i64.bits = 63 := rfl
  rw [e1, e2]
  by_cases hn : 0 ≤ n
  · have f1 : n.fdiv (2 ^ 63) = 0 := by rw [Int.fdiv_eq_ediv_of_nonneg _ (by omega)]; omega
    have f2 : IntKind.u64.wrap n = n := wrap_u64 hn (by omega)
    have f3 : IntKind.u64.wrap (n * 2 ^ 1) = n * 2 := wrap_u64 (by omega) (by omega)
    rw [f1, f2, f3, show IntKind.u64.wrap 0 = 0 from wrap_u64 (by omega) (by omega)]
    unfold bitXor
    rw [BitVec.toNat_xor]
    obtain ⟨m, rfl⟩ := Int.eq_ofNat_of_zero_le hn
    have a1 := ofInt_nat (n := m * 2) IntKind.u64.bits (by show _ < 2 ^ 64; omega)
    rw [show ((m : Int) * 2) = ((m * 2 : Nat) : Int) by omega, a1, show (BitVec.ofInt IntKind.u64.bits 0).toNat = 0 from rfl, Nat.xor_zero, wrap_u64 (by omega) (by omega)]
    unfold zig; rw [if_pos hn]; omega
  · have f1 : n.fdiv (2 ^ 63) = -1 := by rw [Int.fdiv_eq_ediv_of_nonneg _ (by omega)]; omega
    have f2 : IntKind.u64.wrap n = n + 18446744073709551616 := by
      unfold IntKind.wrap; simp only [IntKind.signed, IntKind.bits]; simp; omega
    have f3 : IntKind.u64.wrap ((n + 18446744073709551616) * 2 ^ 1) = n * 2 + 18446744073709551616 := by
      unfold IntKind.wrap; simp only [IntKind.signed, IntKind.bits]; simp; omega
    have f4 : IntKind.u64.wrap (-1) = 18446744073709551615 := by rfl
    rw [f1, f2, f3, f4]
    unfold bitXor
    obtain ⟨m, hm⟩ : ∃ m : Nat, n * 2 + 18446744073709551616 = (m : Int) := ⟨(n * 2 + 18446744073709551616).toNat, by omega⟩
    rw [hm]
    have hones : BitVec.ofInt IntKind.u64.bits 18446744073709551615 = BitVec.allOnes IntKind.u64.bits := by rfl
    rw [hones, BitVec.xor_allOnes, BitVec.toNat_not]
    have a1 := ofInt_nat (n := m) IntKind.u64.bits (by show _ < 2 ^ 64; omega)
    rw [a1]
    show IntKind.u64.wrap ((2 ^ 64 - 1 - m : Nat) : Int) = _
    rw [wrap_u64 (by omega) (by omega)]
    unfold zig; rw [if_neg hn]; omega
theorem unzig_xor {z : Nat} (h : z < 2 ^ 64) :
    bitXor .i64 ((z / 2 : Nat) : Int) (IntKind.i64.wrap (0 - ((z % 2 : Nat) : Int))) = unzig z := by
  have hl : z / 2 < 2 ^ 63 := by omega
  by_cases ho : z % 2 = 1
  · rw [ho]
    have f : IntKind.i64.wrap (0 - ((1 : Nat) : Int)) = -1 := by rfl
    rw [f]
    unfold bitXor
    have hones : BitVec.ofInt IntKind.i64.bits (-1) = BitVec.allOnes IntKind.i64.bits := by rfl
    rw [hones, BitVec.xor_allOnes, BitVec.toNat_not]
    have a1 := ofInt_nat (n := z / 2) IntKind.i64.bits (by show _ < 2 ^ 64; omega)
    rw [a1]
    show IntKind.i64.wrap ((2 ^ 64 - 1 - z / 2 : Nat) : Int) = _
    unfold unzig IntKind.wrap
    simp only [IntKind.signed, IntKind.bits, ho, if_pos]
    simp
    omega
  · have h0 : z % 2 = 0 := by omega
    rw [h0]
    have f : IntKind.i64.wrap (0 - ((0 : Nat) : Int)) = 0 := by rfl
    rw [f]
    unfold bitXor
    have a1 := ofInt_nat (n := z / 2) IntKind.i64.bits (by show _ < 2 ^ 64; omega)
    rw [BitVec.toNat_xor, a1, show (BitVec.ofInt IntKind.i64.bits 0).toNat = 0 from rfl, Nat.xor_zero, wrap_i64 (by omega) (by omega)]
    unfold unzig; rw [if_neg ho]

theorem shr7 (z : Nat) : (z : Int).fdiv (2 ^ (min (7 : Int).toNat IntKind.u64.bits)) = ((z / 128 : Nat) : Int) := by
  have e : min (7 : Int).toNat IntKind.u64.bits = 7 := rfl
  rw [e, Int.fdiv_eq_ediv_of_nonneg _ (by omega)]
  rfl
theorem shr1 (z : Nat) : (z : Int).fdiv (2 ^ (min (1 : Int).toNat IntKind.u64.bits)) = ((z / 2 : Nat) : Int) := by
  have e : min (1 : Int).toNat IntKind.u64.bits = 1 := rfl
  rw [e, Int.fdiv_eq_ediv_of_nonneg _ (by omega)]
  rfl
theorem toNat_ofNat8 {n : Nat} (h : n < 256) : (UInt8.ofNat n).toNat = n := by simp [UInt8.toNat_ofNat']; omega
end Go.Abs
namespace Go.Abs

def encU (z : Nat) : List UInt8 := if z < 128 then [UInt8.ofNat z] else UInt8.ofNat (z % 128 + 128) :: encU (z / 128)
termination_by z
decreasing_by omega
def encI (n : Int) : List UInt8 := encU (zig n)
def encS (s : List UInt8) : List UInt8 := encI s.length ++ s
def encL {α : Type} (one : α → List UInt8) (l : List α) : List UInt8 := encI l.length ++ l.flatMap one

theorem encU_lt {z : Nat} (h : z < 128) : encU z = [UInt8.ofNat z] := by rw [encU, if_pos h]
theorem encU_ge {z : Nat} (h : ¬ z < 128) : encU z = UInt8.ofNat (z % 128 + 128) :: encU (z / 128) := by rw [encU, if_neg h]
theorem encU_pos (z : Nat) : 1 ≤ (encU z).length := by rw [encU]; split <;> simp
theorem encU_len : ∀ (k z : Nat), z < 2 ^ (7 * (k + 1)) → (encU z).length ≤ k + 1
  | 0, z, h => by rw [encU_lt (by simpa using h)]; simp
  | k + 1, z, h => by
    by_cases h1 : z < 128
    · rw [encU_lt h1]; simp
    · rw [encU_ge h1, List.length_cons]
      have : z / 128 < 2 ^ (7 * (k + 1)) := by
        rw [Nat.div_lt_iff_lt_mul (by omega)]
        rw [show 7 * (k + 1 + 1) = 7 * (k + 1) + 7 by omega, Nat.pow_add] at h
        simpa using h
      have := encU_len k _ this
      omega
theorem encU_le10 {z : Nat} (h : z < 2 ^ 64) : (encU z).length ≤ 10 := encU_len 9 z (by omega)
theorem encI_len {n : Int} (h1 : -9223372036854775808 ≤ n) (h2 : n ≤ 9223372036854775807) : 1 ≤ (encI n).length ∧ (encI n).length ≤ 10 := ⟨encU_pos _, encU_le10 (zig_lt h1 h2)⟩

/-- a number at the beginning of bytes, k digits of it having been read: the rest of the number, how many bytes it takes, the error -/
def getU : Nat → List UInt8 → Nat × Nat × Nat
  | _, [] => (0, 0, 10)
  | k, c :: r =>
    if (k = 9 ∧ 1 < c.toNat) ∨ (0 < k ∧ c.toNat = 0) then (0, 0, 11)
    else if c.toNat < 128 then (c.toNat, 1, 0)
    else let x := getU (k + 1) r; if x.2.2 = 0 then (c.toNat - 128 + 128 * x.1, x.2.1 + 1, 0) else (0, 0, x.2.2)
def getI (b : List UInt8) : Int × Nat × Nat := let x := getU 0 b; if x.2.2 = 0 then (unzig x.1, x.2.1, 0) else (0, 0, x.2.2)
def lenD (b : List UInt8) (least : Nat) : Nat × Nat × Nat :=
  let x := getI b
  if x.2.2 ≠ 0 then (0, 0, x.2.2) else if x.1 < 0 then (0, 0, 11) else if (b.length - x.2.1) / least < x.1.toNat then (0, 0, 10) else (x.1.toNat, x.2.1, 0)
def getS (b : List UInt8) : List UInt8 × Nat × Nat :=
  let x := lenD b 1; if x.2.2 ≠ 0 then ([], 0, x.2.2) else ((b.drop x.2.1).take x.1, x.2.1 + x.1, 0)
def getN {α : Type} (one : List UInt8 → α × Nat × Nat) : Nat → List UInt8 → List α × Nat × Nat
  | 0, _ => ([], 0, 0)
  | n + 1, b => let x := one b; if x.2.2 ≠ 0 then ([], 0, x.2.2) else
    let y := getN one n (b.drop x.2.1); if y.2.2 ≠ 0 then ([], 0, y.2.2) else (x.1 :: y.1, x.2.1 + y.2.1, 0)
def getL {α : Type} (one : List UInt8 → α × Nat × Nat) (least : Nat) (b : List UInt8) : List α × Nat × Nat :=
  let x := lenD b least; if x.2.2 ≠ 0 then ([], 0, x.2.2) else
    let y := getN one x.1 (b.drop x.2.1); if y.2.2 ≠ 0 then ([], 0, y.2.2) else (y.1, x.2.1 + y.2.1, 0)
def getD (b : List UInt8) : List UInt8 × Nat × Nat := (b.take 16, 16, 0)

/-! what a decoding without error is -/
theorem getU_ok : ∀ (b : List UInt8) (k : Nat), k ≤ 9 → (getU k b).2.2 = 0 → 1 ≤ (getU k b).2.1 ∧ (getU k b).2.1 ≤ b.length ∧ (getU k b).2.1 + k ≤ 10 ∧ (getU k b).1 < 2 ^ (64 - 7 * k)
  | [], k, _, h => by simp [getU] at h
  | c :: r, k, hk, h => by
    unfold getU at h ⊢
    by_cases h1 : (k = 9 ∧ 1 < c.toNat) ∨ (0 < k ∧ c.toNat = 0)
    · rw [if_pos h1] at h; simp at h
    · rw [if_neg h1] at h ⊢
      by_cases h2 : c.toNat < 128
      · rw [if_pos h2]
        refine ⟨Nat.le_refl _, by simp, by simp; omega, ?_⟩
        simp only
        by_cases h9 : k = 9
        · subst h9
          have : ¬ 1 < c.toNat := fun h => h1 (.inl ⟨rfl, h⟩)
          simp; omega
        · have : 2 ^ 7 ≤ 2 ^ (64 - 7 * k) := Nat.pow_le_pow_right (by omega) (by omega)
          omega
      · rw [if_neg h2] at h ⊢
        have h9 : k ≠ 9 := fun e => h1 (.inl ⟨e, by omega⟩)
        simp only at h ⊢
        by_cases h3 : (getU (k + 1) r).2.2 = 0
        · obtain ⟨a1, a2, a3, a4⟩ := getU_ok r (k + 1) (by omega) h3
          rw [if_pos h3]
          refine ⟨by simp, by simp; omega, by simp; omega, ?_⟩
          simp only
          have hc := UInt8.toNat_lt c
          have e : 2 ^ (64 - 7 * k) = 128 * 2 ^ (64 - 7 * (k + 1)) := by
            rw [show 64 - 7 * k = 7 + (64 - 7 * (k + 1)) by omega, Nat.pow_add]
          rw [e]; omega
        · rw [if_neg h3] at h; simp at h; exact absurd h h3
theorem getU_err : ∀ (b : List UInt8) (k : Nat), (getU k b).2.2 ≠ 0 → (getU k b).1 = 0 ∧ (getU k b).2.1 = 0 ∧ ((getU k b).2.2 = 10 ∨ (getU k b).2.2 = 11)
  | [], k, _ => by simp [getU]
  | c :: r, k, h => by
    unfold getU at h ⊢
    by_cases h1 : (k = 9 ∧ 1 < c.toNat) ∨ (0 < k ∧ c.toNat = 0)
    · rw [if_pos h1]; simp
    · rw [if_neg h1] at h ⊢
      by_cases h2 : c.toNat < 128
      · rw [if_pos h2] at h; simp at h
      · rw [if_neg h2] at h ⊢
        simp only at h ⊢
        by_cases h3 : (getU (k + 1) r).2.2 = 0
        · rw [if_pos h3] at h; simp at h
        · rw [if_neg h3]
          exact ⟨rfl, rfl, (getU_err r (k + 1) h3).2.2⟩
theorem getI_ok {b : List UInt8} (h : (getI b).2.2 = 0) : 1 ≤ (getI b).2.1 ∧ (getI b).2.1 ≤ b.length ∧ (getI b).2.1 ≤ 10 ∧ -9223372036854775808 ≤ (getI b).1 ∧ (getI b).1 ≤ 9223372036854775807 := by
  unfold getI at h ⊢
  simp only at h ⊢
  by_cases h1 : (getU 0 b).2.2 = 0
  · obtain ⟨a1, a2, a3, a4⟩ := getU_ok b 0 (by omega) h1
    rw [if_pos h1]
    exact ⟨a1, a2, a3, unzig_lo (by simpa using a4), unzig_hi (by simpa using a4)⟩
  · rw [if_neg h1] at h; exact absurd h h1
theorem getI_err {b : List UInt8} (h : (getI b).2.2 ≠ 0) : getI b = (0, 0, (getI b).2.2) := by
  unfold getI at h ⊢
  simp only at h ⊢
  by_cases h1 : (getU 0 b).2.2 = 0
  · rw [if_pos h1] at h; exact absurd rfl h
  · rw [if_neg h1]
theorem getI_any (b : List UInt8) : (getI b).2.1 ≤ b.length ∧ (getI b).2.1 ≤ 10 ∧ -9223372036854775808 ≤ (getI b).1 ∧ (getI b).1 ≤ 9223372036854775807 := by
  by_cases h : (getI b).2.2 = 0
  · exact ⟨(getI_ok h).2.1, (getI_ok h).2.2⟩
  · rw [getI_err h]; simp
theorem lenD_ok {b : List UInt8} {least : Nat} (hl : 0 < least) (h : (lenD b least).2.2 = 0) : (lenD b least).2.1 + (lenD b least).1 * least ≤ b.length ∧ 1 ≤ (lenD b least).2.1 := by
  unfold lenD at h ⊢
  simp only at h ⊢
  by_cases h1 : (getI b).2.2 ≠ 0
  · rw [if_pos h1] at h; exact absurd h h1
  · rw [if_neg h1] at h ⊢
    have h1' : (getI b).2.2 = 0 := by omega
    obtain ⟨a1, a2, a3, a4, a5⟩ := getI_ok h1'
    by_cases h2 : (getI b).1 < 0
    · rw [if_pos h2] at h; simp at h
    · rw [if_neg h2] at h ⊢
      by_cases h3 : (b.length - (getI b).2.1) / least < (getI b).1.toNat
      · rw [if_pos h3] at h; simp at h
      · rw [if_neg h3]
        simp only
        have h4 : (getI b).1.toNat ≤ (b.length - (getI b).2.1) / least := by omega
        have h5 := (Nat.le_div_iff_mul_le hl).1 h4
        omega
theorem lenD_any {b : List UInt8} {least : Nat} (hl : 0 < least) : (lenD b least).2.1 + (lenD b least).1 * least ≤ b.length := by
  by_cases h : (lenD b least).2.2 = 0
  · exact (lenD_ok hl h).1
  · unfold lenD at h ⊢
    simp only at h ⊢
    by_cases h1 : (getI b).2.2 ≠ 0
    · rw [if_pos h1]; simp
    · rw [if_neg h1] at h ⊢
      by_cases h2 : (getI b).1 < 0
      · rw [if_pos h2]; simp
      · rw [if_neg h2] at h ⊢
        by_cases h3 : (b.length - (getI b).2.1) / least < (getI b).1.toNat
        · rw [if_pos h3]; simp
        · rw [if_neg h3] at h; exact absurd rfl h
theorem getS_ok {b : List UInt8} (h : (getS b).2.2 = 0) : (getS b).2.1 ≤ b.length ∧ 1 ≤ (getS b).2.1 ∧ (getS b).1.length ≤ b.length := by
  unfold getS at h ⊢
  simp only at h ⊢
  by_cases h1 : (lenD b 1).2.2 ≠ 0
  · rw [if_pos h1] at h; exact absurd h h1
  · rw [if_neg h1]
    obtain ⟨a, c⟩ := lenD_ok (by omega) (by omega : (lenD b 1).2.2 = 0)
    simp; omega
theorem getS_any (b : List UInt8) : (getS b).2.1 ≤ b.length ∧ (getS b).1.length ≤ b.length := by
  by_cases h : (getS b).2.2 = 0
  · exact ⟨(getS_ok h).1, (getS_ok h).2.2⟩
  · unfold getS at h ⊢
    simp only at h ⊢
    by_cases h1 : (lenD b 1).2.2 ≠ 0
    · rw [if_pos h1]; simp
    · rw [if_neg h1] at h; exact absurd rfl h

/-! reading digit by digit -/
def finU (k z : Nat) (x : Nat × Nat × Nat) : Nat × Nat × Nat := if x.2.2 = 0 then (z + 2 ^ (7 * k) * x.1, k + x.2.1, 0) else (0, 0, x.2.2)
theorem finU_start (b : List UInt8) : finU 0 0 (getU 0 b) = getU 0 b := by
  unfold finU
  by_cases h : (getU 0 b).2.2 = 0
  · rw [if_pos h]; simp [Prod.ext_iff, h]
  · rw [if_neg h]
    obtain ⟨a1, a2, _⟩ := getU_err b 0 h
    simp [Prod.ext_iff, a1, a2]
theorem getU_bad {k : Nat} {c : UInt8} {r : List UInt8} (h : (k = 9 ∧ 1 < c.toNat) ∨ (0 < k ∧ c.toNat = 0)) : getU k (c :: r) = (0, 0, 11) := by unfold getU; rw [if_pos h]
theorem getU_last {k : Nat} {c : UInt8} {r : List UInt8} (h : ¬ ((k = 9 ∧ 1 < c.toNat) ∨ (0 < k ∧ c.toNat = 0))) (h2 : c.toNat < 128) : getU k (c :: r) = (c.toNat, 1, 0) := by unfold getU; rw [if_neg h, if_pos h2]
theorem finU_step {k z : Nat} {c : UInt8} {r : List UInt8} (h : ¬ ((k = 9 ∧ 1 < c.toNat) ∨ (0 < k ∧ c.toNat = 0))) (h2 : ¬ c.toNat < 128) :
    finU k z (getU k (c :: r)) = finU (k + 1) (z + (c.toNat % 128) * 2 ^ (7 * k)) (getU (k + 1) r) := by
  have hc := UInt8.toNat_lt c
  have e : c.toNat % 128 = c.toNat - 128 := by omega
  rw [getU, if_neg h, if_neg h2]
  simp only [finU]
  by_cases h3 : (getU (k + 1) r).2.2 = 0
  · rw [if_pos h3, if_pos h3]
    simp only [if_pos]
    rw [e, show 7 * (k + 1) = 7 * k + 7 by omega, Nat.pow_add]
    have : 2 ^ (7 * k) * (c.toNat - 128 + 128 * (getU (k + 1) r).1) = (c.toNat - 128) * 2 ^ (7 * k) + 2 ^ (7 * k) * 2 ^ 7 * (getU (k + 1) r).1 := by
      rw [Nat.mul_add, Nat.mul_comm _ (c.toNat - 128), Nat.mul_assoc (2 ^ (7 * k)) (2 ^ 7)]
    rw [this]
    ext <;> simp <;> omega
  · rw [if_neg h3, if_neg h3]
    simp [h3]

/-! encoding element by element -/
theorem flat_takeW {α : Type} (one : α → List UInt8) {l : List α} {i : Nat} (h : i < l.length) : (l.take (i + 1)).flatMap one = (l.take i).flatMap one ++ one l[i] := by
  rw [List.take_succ_eq_append_getElem h, List.flatMap_append]; simp
theorem sum_take {l : List (List UInt8)} {i : Nat} (h : i < l.length) : ((l.take (i + 1)).map List.length).sum = ((l.take i).map List.length).sum + l[i].length := by
  rw [List.take_succ_eq_append_getElem h, List.map_append, List.sum_append]; simp
theorem sum_le {l : List (List UInt8)} {i : Nat} (h : i < l.length) : ((l.take i).map List.length).sum + l[i].length ≤ (l.map List.length).sum := by
  rw [← sum_take h]
  conv => rhs; rw [← List.take_append_drop (i + 1) l, List.map_append, List.sum_append]
  omega

/-! decoding an integer, as the two programs do -/
theorem drop_cons {b : List UInt8} {k : Nat} (h : k < b.length) : b.drop k = b[k] :: b.drop (k + 1) := List.drop_eq_getElem_cons h
theorem getI_bad {b : List UInt8} {k z e : Nat} (hi : finU k z (getU k (b.drop k)) = getU 0 b) (h : getU k (b.drop k) = (0, 0, e)) (he : e ≠ 0) : getI b = (0, 0, e) := by
  unfold getI
  rw [← hi, h]
  simp [finU, he]
theorem getI_good {b : List UInt8} {k z c : Nat} (hi : finU k z (getU k (b.drop k)) = getU 0 b) (h : getU k (b.drop k) = (c, 1, 0)) : getI b = (unzig (z + c * 2 ^ (7 * k)), k + 1, 0) := by
  unfold getI
  rw [← hi, h]
  simp [finU, Nat.mul_comm]
theorem dig_lt {k z c : Nat} (hk : k ≤ 9) (hz : z < 2 ^ (7 * k)) (h9 : k = 9 → c ≤ 1) : z + (c % 128) * 2 ^ (7 * k) < 2 ^ 64 := by
  by_cases h : k = 9
  · subst h
    have := h9 rfl
    have h2 : c % 128 ≤ 1 := by omega
    have : (c % 128) * 2 ^ (7 * 9) ≤ 1 * 2 ^ (7 * 9) := Nat.mul_le_mul_right _ h2
    omega
  · have h1 : 2 ^ (7 * k) ≤ 2 ^ 56 := Nat.pow_le_pow_right (by omega) (by omega)
    have h2 : c % 128 ≤ 127 := by omega
    have h3 : (c % 128) * 2 ^ (7 * k) ≤ 127 * 2 ^ (7 * k) := Nat.mul_le_mul_right _ h2
    omega
theorem dig_lt2 {k z c : Nat} (hz : z < 2 ^ (7 * k)) : z + (c % 128) * 2 ^ (7 * k) < 2 ^ (7 * (k + 1)) := by
  have h2 : c % 128 ≤ 127 := by omega
  have h3 : (c % 128) * 2 ^ (7 * k) ≤ 127 * 2 ^ (7 * k) := Nat.mul_le_mul_right _ h2
  rw [show 7 * (k + 1) = 7 * k + 7 by omega, Nat.pow_add]
  omega
theorem shl7 {k x : Nat} (hk : k ≤ 9) (h : x * 2 ^ (7 * k) < 2 ^ 64) : IntKind.u64.wrap ((x : Int) * 2 ^ (min (((7 * k : Nat) : Int)).toNat IntKind.u64.bits)) = ((x * 2 ^ (7 * k) : Nat) : Int) := by
  have e : min (((7 * k : Nat) : Int)).toNat IntKind.u64.bits = 7 * k := by
    rw [Int.toNat_natCast]; show min (7 * k) 64 = _; omega
  rw [e, show ((x : Int) * 2 ^ (7 * k)) = ((x * 2 ^ (7 * k) : Nat) : Int) by simp [Int.natCast_mul, Int.natCast_pow], wrap_u64 (by omega) (by omega)]

theorem getU_skip : ∀ (k s : Nat) (b : List UInt8) (e : Nat), (∀ j, j < k → ∃ c, b[j]? = some c ∧ 128 ≤ c.toNat) → s + k ≤ 9 → (getU (s + k) (b.drop k)).2.2 = e → e ≠ 0 → getU s b = (0, 0, e)
  | 0, s, b, e, _, _, h, he => by
    rw [List.drop_zero, Nat.add_zero] at h
    obtain ⟨a1, a2, _⟩ := getU_err b s (by rw [h]; exact he)
    simp [Prod.ext_iff, a1, a2, h]
  | k + 1, s, b, e, hb, hs, h, he => by
    obtain ⟨c, hc, h128⟩ := hb 0 (by omega)
    cases b with
    | nil => simp at hc
    | cons c' r =>
      simp at hc; subst hc
      have ih := getU_skip k (s + 1) r e (fun j hj => by obtain ⟨c, h1, h2⟩ := hb (j + 1) (by omega); exact ⟨c, by simpa using h1, h2⟩) (by omega)
        (by rw [show s + 1 + k = s + (k + 1) by omega]; simpa using h) he
      rw [getU, if_neg (by omega), if_neg (by omega)]
      simp [ih, he]
/-- what stands behind k digits that go on -/
def More (b : List UInt8) (k : Nat) : Prop := ∀ j, j < k → ∃ c, b[j]? = some c ∧ 128 ≤ c.toNat
theorem More.zero (b : List UInt8) : More b 0 := fun j h => absurd h (by omega)
theorem More.succ {b : List UInt8} {k : Nat} (h : More b k) (hk : k < b.length) (hc : 128 ≤ b[k].toNat) : More b (k + 1) := by
  intro j hj
  by_cases e : j = k
  · subst e; exact ⟨b[j], List.getElem?_eq_getElem hk, hc⟩
  · exact h j (by omega)
theorem More.skip {b : List UInt8} {k e : Nat} (h : More b k) (hk : k ≤ 9) (he : getU k (b.drop k) = (0, 0, e)) (h0 : e ≠ 0) : getI b = (0, 0, e) := by
  have := getU_skip k 0 b e h (by omega) (by rw [Nat.zero_add, he]) h0
  unfold getI
  rw [this]; simp [h0]
theorem More.stop {b : List UInt8} (h : More b b.length) (hl : b.length ≤ 9) : getI b = (0, 0, 10) :=
  More.skip h hl (by rw [List.drop_eq_nil_of_le (by omega)]; rfl) (by decide)
end Go.Abs
namespace Go.Abs
theorem lenD_1 {b : List UInt8} {m : Nat} (h : (getI b).2.2 ≠ 0) : lenD b m = (0, 0, (getI b).2.2) := by unfold lenD; simp only; rw [if_pos h]
theorem lenD_2 {b : List UInt8} {m : Nat} (h : (getI b).2.2 = 0) (h2 : (getI b).1 < 0) : lenD b m = (0, 0, 11) := by unfold lenD; simp only; rw [if_neg (by omega), if_pos h2]
theorem lenD_3 {b : List UInt8} {m : Nat} (h : (getI b).2.2 = 0) (h2 : ¬ (getI b).1 < 0) (h3 : (b.length - (getI b).2.1) / m < (getI b).1.toNat) : lenD b m = (0, 0, 10) := by
  unfold lenD; simp only; rw [if_neg (by omega), if_neg h2, if_pos h3]
theorem lenD_4 {b : List UInt8} {m : Nat} (h : (getI b).2.2 = 0) (h2 : ¬ (getI b).1 < 0) (h3 : ¬ (b.length - (getI b).2.1) / m < (getI b).1.toNat) : lenD b m = ((getI b).1.toNat, (getI b).2.1, 0) := by
  unfold lenD; simp only; rw [if_neg (by omega), if_neg h2, if_neg h3]
theorem getS_1 {b : List UInt8} (h : (lenD b 1).2.2 ≠ 0) : getS b = ([], 0, (lenD b 1).2.2) := by unfold getS; simp only; rw [if_pos h]
variable {α : Type} {one : List UInt8 → α × Nat × Nat} {b : List UInt8} {m at_ i n : Nat} {o : List α}
end Go.Abs
namespace Go.Abs
/-! how long a decoded list is, and how much it takes -/
theorem getN_len {α : Type} {one : List UInt8 → α × Nat × Nat} : ∀ (n : Nat) (b : List UInt8), (getN one n b).1.length ≤ n
  | 0, b => by simp [getN]
  | n + 1, b => by
    have ih := getN_len (one := one) n (b.drop (one b).2.1)
    unfold getN
    by_cases h1 : (one b).2.2 = 0 <;> by_cases h2 : (getN one n (b.drop (one b).2.1)).2.2 = 0 <;> simp [h1, h2, ih]
theorem getN_used {α : Type} {one : List UInt8 → α × Nat × Nat} (ho : ∀ b, (one b).2.1 ≤ b.length) : ∀ (n : Nat) (b : List UInt8), (getN one n b).2.1 ≤ b.length
  | 0, b => by simp [getN]
  | n + 1, b => by
    have ih := getN_used ho n (b.drop (one b).2.1)
    have h := ho b
    rw [List.length_drop] at ih
    unfold getN
    by_cases h1 : (one b).2.2 = 0 <;> by_cases h2 : (getN one n (b.drop (one b).2.1)).2.2 = 0 <;> simp [h1, h2] <;> omega
theorem getL_any {α : Type} {one : List UInt8 → α × Nat × Nat} {m : Nat} (hm : 0 < m) (ho : ∀ b, (one b).2.1 ≤ b.length) (b : List UInt8) : (getL one m b).1.length ≤ b.length ∧ (getL one m b).2.1 ≤ b.length := by
  have h := lenD_any (b := b) hm
  have h3 := getN_len (one := one) (lenD b m).1 (b.drop (lenD b m).2.1)
  have h4 := getN_used ho (lenD b m).1 (b.drop (lenD b m).2.1)
  have h5 : (lenD b m).1 ≤ (lenD b m).1 * m := Nat.le_mul_of_pos_right _ hm
  rw [List.length_drop] at h4
  unfold getL
  by_cases h1 : (lenD b m).2.2 = 0 <;> by_cases h2 : (getN one (lenD b m).1 (b.drop (lenD b m).2.1)).2.2 = 0 <;> simp [h1, h2] <;> omega
theorem getLI_any (b : List UInt8) : (getL getI 1 b).1.length ≤ b.length ∧ (getL getI 1 b).2.1 ≤ b.length := getL_any (by decide) (fun b => (getI_any b).1) b
theorem getLS_any (b : List UInt8) : (getL getS 1 b).1.length ≤ b.length ∧ (getL getS 1 b).2.1 ≤ b.length := getL_any (by decide) (fun b => (getS_any b).1) b
end Go.Abs
namespace Go.Abs
theorem getU_enc : ∀ (m z k : Nat) (t : List UInt8), z ≤ m → k ≤ 9 → z < 2 ^ (64 - 7 * k) → (0 < k → z ≠ 0) → getU k (encU z ++ t) = (z, (encU z).length, 0) := by
  intro m
  induction m with
  | zero =>
    intro z k t hm hk hz h0
    have : z = 0 := by omega
    subst this
    rw [encU_lt (by decide), List.singleton_append, getU_last _ (by decide)]
    · rfl
    · rintro (⟨_, h⟩ | ⟨h, _⟩)
      · revert h; decide
      · exact h0 h rfl
  | succ m ih =>
    intro z k t hm hk hz h0
    by_cases h : z < 128
    · have e : (UInt8.ofNat z).toNat = z := toNat_ofNat8 (by omega)
      rw [encU_lt h, List.singleton_append, getU_last _ (by omega), e]
      · rfl
      · rw [e]
        rintro (⟨h9, h1⟩ | ⟨h1, h2⟩)
        · subst h9; simp at hz; omega
        · exact h0 h1 h2
    · have h9 : k ≠ 9 := by rintro rfl; simp at hz; omega
      have e : (UInt8.ofNat (z % 128 + 128)).toNat = z % 128 + 128 := toNat_ofNat8 (by omega)
      have hz2 : z / 128 < 2 ^ (64 - 7 * (k + 1)) := by
        rw [Nat.div_lt_iff_lt_mul (by omega)]
        rw [show 64 - 7 * k = (64 - 7 * (k + 1)) + 7 by omega, Nat.pow_add] at hz
        omega
      have := ih (z / 128) (k + 1) t (by omega) (by omega) hz2 (by omega)
      rw [encU_ge h, List.cons_append, getU, if_neg (by rw [e]; omega), if_neg (by rw [e]; omega), this, e]
      simp only [if_pos, List.length_cons]
      ext <;> simp; omega
theorem getI_enc {n : Int} (h1 : -9223372036854775808 ≤ n) (h2 : n ≤ 9223372036854775807) (t : List UInt8) : getI (encI n ++ t) = (n, (encI n).length, 0) := by
  have h := getU_enc (zig n) (zig n) 0 t (Nat.le_refl _) (by omega) (by have := zig_lt h1 h2; omega) (by omega)
  unfold getI encI
  rw [h]
  simp [unzig_zig]
theorem lenD_enc {n least : Nat} (hn : n ≤ 9223372036854775807) (hl : 0 < least) {t : List UInt8} (ht : n * least ≤ t.length) : lenD (encI n ++ t) least = (n, (encI n).length, 0) := by
  have h := getI_enc (n := (n : Int)) (by omega) (by omega) t
  have hd : ¬ (t.length / least < n) := by
    rw [Nat.div_lt_iff_lt_mul hl]; omega
  unfold lenD
  simp only [h]
  rw [if_neg (by omega), if_neg (by omega), if_neg (by rw [List.length_append, Nat.add_sub_cancel_left, Int.toNat_natCast]; exact hd)]
  simp
theorem getS_enc {s : List UInt8} (hs : s.length ≤ 9223372036854775807) (t : List UInt8) : getS (encS s ++ t) = (s, (encS s).length, 0) := by
  have h := lenD_enc (n := s.length) (least := 1) hs (by omega) (t := s ++ t) (by rw [List.length_append]; omega)
  unfold getS encS
  rw [List.append_assoc, h]
  simp
theorem getN_enc {α : Type} {one : List UInt8 → α × Nat × Nat} {enc : α → List UInt8} : ∀ (l : List α) (t : List UInt8), (∀ x ∈ l, ∀ t, one (enc x ++ t) = (x, (enc x).length, 0)) →
    getN one l.length (l.flatMap enc ++ t) = (l, (l.flatMap enc).length, 0)
  | [], t, _ => by simp [getN]
  | x :: l, t, h => by
    have ih := getN_enc l t (fun y hy => h y (List.mem_cons_of_mem _ hy))
    have hx := h x (List.mem_cons_self ..) (l.flatMap enc ++ t)
    rw [List.flatMap_cons, List.append_assoc, List.length_cons, getN]
    simp only [hx]
    simp [ih]
theorem flat_ge {α : Type} {enc : α → List UInt8} {m : Nat} : ∀ (l : List α), (∀ x ∈ l, m ≤ (enc x).length) → l.length * m ≤ (l.flatMap enc).length
  | [], _ => by simp
  | x :: l, h => by
    have ih := flat_ge l (fun y hy => h y (List.mem_cons_of_mem _ hy))
    have hx := h x (List.mem_cons_self ..)
    rw [List.flatMap_cons, List.length_append, List.length_cons, Nat.succ_mul]
    omega
theorem getL_enc {α : Type} {one : List UInt8 → α × Nat × Nat} {enc : α → List UInt8} {m : Nat} (hm : 0 < m) (l : List α) (t : List UInt8) (hl : l.length ≤ 9223372036854775807) (hlen : ∀ x ∈ l, m ≤ (enc x).length)
    (h : ∀ x ∈ l, ∀ t, one (enc x ++ t) = (x, (enc x).length, 0)) : getL one m (encL enc l ++ t) = (l, (encL enc l).length, 0) := by
  have h1 := lenD_enc (n := l.length) (least := m) hl hm (t := l.flatMap enc ++ t) (by have := flat_ge l hlen; rw [List.length_append]; omega)
  have h2 := getN_enc l t h
  unfold getL encL
  rw [List.append_assoc, h1]
  simp [h2]
theorem encS_ge (s : List UInt8) : 1 ≤ (encS s).length := by have := encU_pos (zig s.length); unfold encS encI; rw [List.length_append]; omega
theorem getLI_enc (l : List Int) (t : List UInt8) (hl : l.length ≤ 9223372036854775807) (hn : ∀ n ∈ l, -9223372036854775808 ≤ n ∧ n ≤ 9223372036854775807) : getL getI 1 (encL encI l ++ t) = (l, (encL encI l).length, 0) :=
  getL_enc (by decide) l t hl (fun x _ => encU_pos _) (fun x hx t => getI_enc (hn x hx).1 (hn x hx).2 t)
theorem getLS_enc (l : List (List UInt8)) (t : List UInt8) (hl : l.length ≤ 9223372036854775807) (hn : ∀ s ∈ l, s.length ≤ 9223372036854775807) : getL getS 1 (encL encS l ++ t) = (l, (encL encS l).length, 0) :=
  getL_enc (by decide) l t hl (fun x _ => encS_ge _) (fun x hx t => getS_enc (hn x hx) t)
/-! how long encodings are -/
end Go.Abs
namespace Go.Abs
theorem getU_nz : ∀ (b : List UInt8) (k : Nat), 0 < k → (getU k b).2.2 = 0 → (getU k b).1 ≠ 0
  | [], k, _, h => by simp [getU] at h
  | c :: r, k, hk, h => by
    unfold getU at h ⊢
    by_cases h1 : (k = 9 ∧ 1 < c.toNat) ∨ (0 < k ∧ c.toNat = 0)
    · rw [if_pos h1] at h; simp at h
    · rw [if_neg h1] at h ⊢
      by_cases h2 : c.toNat < 128
      · rw [if_pos h2]; simp only; intro e; exact h1 (.inr ⟨hk, e⟩)
      · rw [if_neg h2] at h ⊢
        simp only at h ⊢
        by_cases h3 : (getU (k + 1) r).2.2 = 0
        · have := getU_nz r (k + 1) (by omega) h3
          rw [if_pos h3]; simp only; omega
        · rw [if_neg h3] at h; exact absurd h h3
theorem getU_can : ∀ (b : List UInt8) (k : Nat), (getU k b).2.2 = 0 → encU (getU k b).1 = b.take (getU k b).2.1
  | [], k, h => by simp [getU] at h
  | c :: r, k, h => by
    have hc := UInt8.toNat_lt c
    unfold getU at h ⊢
    by_cases h1 : (k = 9 ∧ 1 < c.toNat) ∨ (0 < k ∧ c.toNat = 0)
    · rw [if_pos h1] at h; simp at h
    · rw [if_neg h1] at h ⊢
      by_cases h2 : c.toNat < 128
      · rw [if_pos h2]; simp only
        rw [encU_lt h2]
        simp
      · rw [if_neg h2] at h ⊢
        simp only at h ⊢
        by_cases h3 : (getU (k + 1) r).2.2 = 0
        · have ih := getU_can r (k + 1) h3
          have hnz := getU_nz r (k + 1) (by omega) h3
          rw [if_pos h3]
          simp only [List.take_succ_cons]
          rw [encU_ge (by omega), ← ih, show (c.toNat - 128 + 128 * (getU (k + 1) r).1) % 128 + 128 = c.toNat by omega, show (c.toNat - 128 + 128 * (getU (k + 1) r).1) / 128 = (getU (k + 1) r).1 by omega]
          simp
        · rw [if_neg h3] at h; exact absurd h h3
theorem getI_can {b : List UInt8} (h : (getI b).2.2 = 0) : encI (getI b).1 = b.take (getI b).2.1 := by
  unfold getI at h ⊢
  simp only at h ⊢
  by_cases h1 : (getU 0 b).2.2 = 0
  · rw [if_pos h1]; simp only [encI, zig_unzig]; exact getU_can b 0 h1
  · rw [if_neg h1] at h; exact absurd h h1
theorem lenD_can {b : List UInt8} {m : Nat} (h : (lenD b m).2.2 = 0) : encI (lenD b m).1 = b.take (lenD b m).2.1 := by
  by_cases h1 : (getI b).2.2 = 0
  · by_cases h2 : (getI b).1 < 0
    · rw [lenD_2 h1 h2] at h; simp at h
    · by_cases h3 : (b.length - (getI b).2.1) / m < (getI b).1.toNat
      · rw [lenD_3 h1 h2 h3] at h; simp at h
      · rw [lenD_4 h1 h2 h3]; simp only
        rw [← getI_can h1, Int.toNat_of_nonneg (by omega)]
  · rw [lenD_1 h1] at h; exact absurd h h1
theorem take_add (b : List UInt8) (i j : Nat) : b.take (i + j) = b.take i ++ (b.drop i).take j := by rw [List.take_add]
theorem getS_can {b : List UInt8} (h : (getS b).2.2 = 0) : encS (getS b).1 = b.take (getS b).2.1 := by
  have hany := lenD_any (b := b) (least := 1) (by decide)
  by_cases h1 : (lenD b 1).2.2 = 0
  · have hc := lenD_can h1
    have hs : ((b.drop (lenD b 1).2.1).take (lenD b 1).1).length = (lenD b 1).1 := by rw [List.length_take, List.length_drop]; omega
    unfold getS
    simp only
    rw [if_neg (fun hh => hh h1)]
    simp only [encS]
    rw [hs, hc, take_add]
  · rw [getS_1 h1] at h; exact absurd h h1
theorem getN_can {α : Type} {one : List UInt8 → α × Nat × Nat} {enc : α → List UInt8} (hone : ∀ b, (one b).2.2 = 0 → (one b).2.1 ≤ b.length → enc (one b).1 = b.take (one b).2.1) :
    ∀ (n : Nat) (b : List UInt8), (getN one n b).2.2 = 0 → (getN one n b).2.1 ≤ b.length → (getN one n b).1.flatMap enc = b.take (getN one n b).2.1
  | 0, b, _, _ => by simp [getN]
  | n + 1, b, h, hl => by
    unfold getN at h hl ⊢
    by_cases h1 : (one b).2.2 = 0
    · by_cases h2 : (getN one n (b.drop (one b).2.1)).2.2 = 0
      · simp only [h1, h2] at h hl ⊢
        simp at hl ⊢
        have ih := getN_can hone n (b.drop (one b).2.1) h2 (by rw [List.length_drop]; omega)
        rw [ih, hone b h1 (by omega), take_add]
      · simp [h1, h2] at h
    · simp [h1] at h
theorem getL_can {α : Type} {one : List UInt8 → α × Nat × Nat} {enc : α → List UInt8} {m : Nat} (hone : ∀ b, (one b).2.2 = 0 → (one b).2.1 ≤ b.length → enc (one b).1 = b.take (one b).2.1) {b : List UInt8}
    (hlen : (lenD b m).2.2 = 0 → (getN one (lenD b m).1 (b.drop (lenD b m).2.1)).2.2 = 0 → (getN one (lenD b m).1 (b.drop (lenD b m).2.1)).1.length = (lenD b m).1)
    (hu : (getL one m b).2.1 ≤ b.length) (h : (getL one m b).2.2 = 0) : encL enc (getL one m b).1 = b.take (getL one m b).2.1 := by
  unfold getL at h hu ⊢
  by_cases h1 : (lenD b m).2.2 = 0
  · by_cases h2 : (getN one (lenD b m).1 (b.drop (lenD b m).2.1)).2.2 = 0
    · simp only [h1, h2] at h hu ⊢
      simp at hu ⊢
      have hc := lenD_can h1
      have hn := getN_can hone (lenD b m).1 (b.drop (lenD b m).2.1) h2 (by rw [List.length_drop]; omega)
      rw [encL, hlen h1 h2, hc, hn, take_add]
    · simp [h1, h2] at h
  · simp [h1] at h
theorem getN_full {α : Type} {one : List UInt8 → α × Nat × Nat} : ∀ (n : Nat) (b : List UInt8), (getN one n b).2.2 = 0 → (getN one n b).1.length = n
  | 0, b, _ => by simp [getN]
  | n + 1, b, h => by
    unfold getN at h ⊢
    by_cases h1 : (one b).2.2 = 0
    · by_cases h2 : (getN one n (b.drop (one b).2.1)).2.2 = 0
      · simp [h1, h2, getN_full n _ h2]
      · simp [h1, h2] at h
    · simp [h1] at h
theorem getLI_can {b : List UInt8} (h : (getL getI 1 b).2.2 = 0) : encL encI (getL getI 1 b).1 = b.take (getL getI 1 b).2.1 :=
  getL_can (fun _ h _ => getI_can h) (fun _ h => getN_full _ _ h) (getLI_any b).2 h
theorem getLS_can {b : List UInt8} (h : (getL getS 1 b).2.2 = 0) : encL encS (getL getS 1 b).1 = b.take (getL getS 1 b).2.1 :=
  getL_can (fun _ h _ => getS_can h) (fun _ h => getN_full _ _ h) (getLS_any b).2 h
/-! what is in a decoded list -/
theorem getN_all {α : Type} {one : List UInt8 → α × Nat × Nat} {p : α → Prop} {N : Nat} (hone : ∀ b, b.length ≤ N → p (one b).1) : ∀ (n : Nat) (b : List UInt8), b.length ≤ N → ∀ x ∈ (getN one n b).1, p x
  | 0, b, _, x, hx => by simp [getN] at hx
  | n + 1, b, hb, x, hx => by
    unfold getN at hx
    by_cases h1 : (one b).2.2 = 0
    · by_cases h2 : (getN one n (b.drop (one b).2.1)).2.2 = 0
      · simp [h1, h2] at hx
        rcases hx with rfl | hx
        · exact hone b hb
        · exact getN_all hone n _ (by rw [List.length_drop]; omega) x hx
      · simp [h1, h2] at hx
    · simp [h1] at hx
end Go.Abs
