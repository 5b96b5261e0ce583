/-
  A small logic over the kit's wp: exact frames, a list of assertions on memory, one rule for each form of code.
-/
import Derived.WalkKit
import Derived.Deep.LoopGhost
import Derived.Scope
import Derived.Orders
import Derived.Sort.LoopGhostIn
import Derived.TacticsIn
import Derived.RangeFuncRecord
namespace Go.Abs

/-- the fence that keeps nothing out: in an activation (none), or in a round of the loop l -/
def FR (r : Option Nat) : Fence := { fn := fun _ => True, depth := none, alive := false, round := r }
theorem wpIn_scope {F : Fence} {n : Nat} {P : Program} {Q : Exit → Act → World → Prop} {a : Act} {w : World} {c : Code} (h : c.wpIn F n P (Exit.noGoto Q) a w) : (Code.scope c).wpIn F n P Q a w := by
  intro b k cs hro hb hr
  have h0 : (lone (b.atR a (.code (.scope c) :: k)) cs w).fenced P F := fenced_calm hb hr rfl
  have s0 : step P (lone (b.atR a (.code (.scope c) :: k)) cs w) = .next (lone (b.atR a (.code c :: .inScope c :: k)) cs w) := step_lone_go (by simp [stepG, stepG.exec, Frame.atR])
  have s1 : ∀ a w, step P (lone (b.atR a (.inScope c :: k)) cs w) = .next (lone (b.atR a k) cs w) := fun a w => step_lone_go (by simp [stepG, stepG.exec, Frame.atR])
  obtain ⟨e, a₁, w₁, hq, harr⟩ := h b (.inScope c :: k) cs hro hb hr
  cases e with
  | normal => exact ⟨.normal, a₁, w₁, hq, .head h0 s0 (StepsIn.trans harr (.one (fenced_calm hb hr rfl) (s1 _ _)))⟩
  | exit id =>
    have hx : exitTo id (.inScope c :: k) = exitTo id k := by simp [exitTo]
    exact ⟨.exit id, a₁, w₁, hq, fun k' hk => .head h0 s0 (harr.1 k' (by rw [hx]; exact hk)),
      fun hr' hk => let ⟨k₁, h1, h2⟩ := harr.2 hr' (by rw [hx]; exact hk); ⟨k₁, h1, .head h0 s0 h2⟩⟩
  | goto l => exact hq.elim
  | ret => exact ⟨_, a₁, w₁, hq, .of_steps (.one h0 s0) harr⟩
  | panic ch => exact ⟨_, a₁, w₁, hq, .of_steps (.one h0 s0) harr⟩
  | outgrown => exact ⟨_, a₁, w₁, hq, .of_steps (.one h0 s0) harr⟩

inductive Ow where
  | no
  | mine (k : Nat)
  | far

abbrev Own := Nat → Ow
abbrev VF := Nat → Option Value

def VF.set (V : VF) (d : Nat) (v : Value) : VF := fun t => bif Nat.beq t d then some v else V t
def VF.clr (V : VF) (d : Nat) : VF := fun t => bif Nat.beq t d then none else V t
def VF.put (V : VF) (d : Option Nat) (v : Value) : VF := match d with | some d => V.set d v | none => V
def VF.of : List (Nat × Value) → VF
  | [], _ => none
  | (d, v) :: r, t => bif Nat.beq t d then some v else VF.of r t
def VF.args : List Value → Nat → VF
  | [], _, _ => none
  | v :: r, i, t => bif Nat.beq t i then some v else VF.args r (i + 1) t

theorem beqF {a b : Nat} (h : ¬ a = b) : Nat.beq a b = false := by
  cases e : Nat.beq a b with
  | false => rfl
  | true => exact absurd (Nat.eq_of_beq_eq_true e) h

theorem VF.set_eq {V : VF} {d t : Nat} {v x : Value} (h : V.set d v t = some x) : (t = d ∧ x = v) ∨ (t ≠ d ∧ V t = some x) := by
  unfold VF.set at h
  by_cases e : t = d
  · subst e; simp at h; exact .inl ⟨rfl, h.symm⟩
  · have : Nat.beq t d = false := beqF e
    rw [this] at h; exact .inr ⟨e, h⟩
theorem VF.clr_eq {V : VF} {d t : Nat} {x : Value} (h : V.clr d t = some x) : t ≠ d ∧ V t = some x := by
  unfold VF.clr at h
  by_cases e : t = d
  · subst e; simp at h
  · have : Nat.beq t d = false := beqF e
    rw [this] at h; exact ⟨e, h⟩

structure HA where
  p : World → Own → Nat → Prop
  keep : ∀ {w w' : World} {o o' : Own} {k k' : Nat}, w.heap.size ≤ w'.heap.size →
    (∀ b, b < w.heap.size → o b = .mine k → o' b = .mine k' ∧ w'.heap[b]? = w.heap[b]?) →
    (∀ b, b < w.heap.size → o b = .no → o' b = .no ∧ w'.heap[b]? = w.heap[b]?) → p w o k → p w' o' k'

def HA.emp : HA := ⟨fun _ _ _ => True, fun _ _ _ _ => trivial⟩

def Sats (w : World) (o : Own) (H : List HA) : Prop := ∀ (k : Nat) (h : HA), H[k]? = some h → h.p w o k
def Bnd (w : World) (o : Own) : Prop := ∀ b, w.heap.size ≤ b → o b = .no

structure Tr (w : World) (o : Own) (w' : World) (o' : Own) : Prop where
  os : w'.os = w.os
  tape : w'.tape = w.tape
  output : w'.output = w.output
  size : w.heap.size ≤ w'.heap.size
  no : ∀ b, b < w.heap.size → o b = .no → o' b = .no ∧ w'.heap[b]? = w.heap[b]?
  far : ∀ b, b < w.heap.size → o b = .far → o' b = .far ∧ w'.heap[b]? = w.heap[b]?

theorem Tr.refl (w : World) (o : Own) : Tr w o w o := ⟨rfl, rfl, rfl, Nat.le_refl _, fun _ _ h => ⟨h, rfl⟩, fun _ _ h => ⟨h, rfl⟩⟩
theorem Tr.trans {w w1 w2 : World} {o o1 o2 : Own} (h : Tr w o w1 o1) (k : Tr w1 o1 w2 o2) : Tr w o w2 o2 :=
  ⟨k.os.trans h.os, k.tape.trans h.tape, k.output.trans h.output, Nat.le_trans h.size k.size,
   fun b hb ho => let ⟨e1, e2⟩ := h.no b hb ho; let ⟨e3, e4⟩ := k.no b (Nat.lt_of_lt_of_le hb h.size) e1; ⟨e3, e4.trans e2⟩,
   fun b hb ho => let ⟨e1, e2⟩ := h.far b hb ho; let ⟨e3, e4⟩ := k.far b (Nat.lt_of_lt_of_le hb h.size) e1; ⟨e3, e4.trans e2⟩⟩

/-- the marks that ranges over functions have left: each block is nobody's, newer than the walk's beginning, and holds no call -/
def Marked (w0 : World) (ds : List Deferred) (w : World) (o : Own) : Prop :=
  (∀ d ∈ ds, ∃ D, d = { target := .collected D, args := #[] } ∧ w0.heap.size ≤ D ∧ D < w.heap.size ∧ o D = .far ∧ w.heap[D]? = some (.deferred (some []))) ∧ ds.Nodup
structure TrM (w0 : World) (o0 : Own) (ds : List Deferred) (w : World) (o : Own) : Prop where
  tr : Tr w0 o0 w o
  mks : Marked w0 ds w o
theorem Marked.nil (w0 w : World) (o : Own) : Marked w0 [] w o := ⟨fun d h => by simp at h, List.nodup_nil⟩
theorem Marked.trans {w0 w w' : World} {ds : List Deferred} {o o' : Own} (h : Marked w0 ds w o) (t : Tr w o w' o') : Marked w0 ds w' o' :=
  ⟨fun d hd => let ⟨D, e, h1, h2, h3, h4⟩ := h.1 d hd; let ⟨f1, f2⟩ := t.far D h2 h3; ⟨D, e, h1, Nat.lt_of_lt_of_le h2 t.size, f1, f2.trans h4⟩, h.2⟩
theorem TrM.trans {w0 w w' : World} {ds : List Deferred} {o0 o o' : Own} (h : TrM w0 o0 ds w o) (t : Tr w o w' o') : TrM w0 o0 ds w' o' := ⟨h.tr.trans t, h.mks.trans t⟩
theorem TrM.refl (w : World) (o : Own) : TrM w o [] w o := ⟨Tr.refl w o, Marked.nil w w o⟩

/-- what a walk holds fixed: the program, the number of slots, the world at entry, the loop whose round it is, what must hold at its end -/
structure Env where
  P : Program
  n : Nat
  w0 : World
  o0 : Own
  r : Option Nat
  B : Exit → Act → World → Prop
  np : ∀ (c : List PanicEntry) (a : Act) (d : Option Nat) (v : Value) (w : World), B (.panic c) (a.put d v) w → B (.panic c) a w
  no : ∀ a w, ¬ B .outgrown a w

def Agree (V : VF) (a : Act) : Prop := ∀ t v, V t = some v → a.tmps.getD t undef = v

def Rel (E : Env) (V : VF) (H : List HA) (a : Act) (w : World) : Prop :=
  a.tmps.size = E.n ∧ (E.r.isSome = true → a.defers = []) ∧ Agree V a ∧ ∃ o, Bnd w o ∧ TrM E.w0 E.o0 a.defers w o ∧ Sats w o H

inductive KI where
  | code (c : Code)
  | blk (id : Nat)
  | scope
  | loop (L : Act → World → Prop)

def Qof (E : Env) : List KI → Exit → Act → World → Prop
  | [] => E.B
  | .code y :: k => Exit.then (fun a w => y.wpIn (FR E.r) 0 E.P (Qof E k) a w) (Qof E k)
  | .blk id :: k => Exit.inBlock id (Qof E k)
  | .scope :: k => Exit.noGoto (Qof E k)
  | .loop L :: k => Exit.then L (Qof E k)

def Run (E : Env) (c : Code) (k : List KI) (V : VF) (H : List HA) : Prop := ∀ a w, Rel E V H a w → c.wpIn (FR E.r) 0 E.P (Qof E k) a w
def Ops (E : Env) (ops : Array Oper) (l : List Oper) (k : List KI) (V : VF) (H : List HA) : Prop :=
  ∀ a w, Rel E V H a w → wpListIn (FR E.r) 0 E.P ops (Qof E k) l a w
def Goes (E : Env) (k : List KI) (V : VF) (H : List HA) : Prop := ∀ a w, Rel E V H a w → Qof E k .normal a w
def Fin (E : Env) (V : VF) (H : List HA) : Prop := ∀ a w, Rel E V H a w → E.B .ret a w

variable {E : Env} {k : List KI} {V : VF} {H : List HA}

theorem run_seq {x y : Code} (h : Run E x (.code y :: k) V H) : Run E (.seq x y) k V H := fun a w r => wpIn_seq (h a w r)
theorem run_block {id : Nat} {c : Code} (h : Run E c (.blk id :: k) V H) : Run E (.block id c) k V H := fun a w r => wpIn_block (h a w r)
theorem run_scope {c : Code} (h : Run E c (.scope :: k) V H) : Run E (.scope c) k V H := fun a w r => wpIn_scope (h a w r)
theorem run_skip (h : Goes E k V H) : Run E .skip k V H := fun a w r => wpIn_skip (h a w r)
theorem run_label {l : Nat} (h : Goes E k V H) : Run E (.label l) k V H := fun a w r => wpIn_label (h a w r)
theorem run_region {id : Nat} {ops : Array Oper} (h : Ops E ops ops.toList k V H) : Run E (.region id ops false) k V H :=
  fun a w r => wpIn_region_list (h a w r)
theorem run_region' {id : Nat} {l : List Oper} (h : Ops E l.toArray l k V H) : Run E (.region id l.toArray false) k V H :=
  fun a w r => wpIn_region_list (by simpa using h a w r)

/-- the value of an operand, where it is known -/
def VF.ev (V : VF) : Operand → Option Value
  | .tmp t => V t
  | .const v => some v
  | .global g => some (.pointer (some ⟨g, 0, none⟩))
  | .func f => some (.func (.func f) #[] #[])

theorem Agree.ev {a : Act} (h : Agree V a) {x : Operand} {v : Value} (hx : V.ev x = some v) : a.eval x = v := by
  cases x with
  | tmp t => exact h t v hx
  | const c => simpa [VF.ev, Act.eval] using hx
  | global g => simpa [VF.ev, Act.eval] using hx
  | func f => simpa [VF.ev, Act.eval] using hx

theorem run_cond {c : Operand} {x y : Code} (b : Bool) (hc : V.ev c = some (.bool b)) (ht : b = true → Run E x k V H) (hf : b = false → Run E y k V H) :
    Run E (.cond c x y) k V H := fun a w r => wpIn_cond_split (r.2.2.1.ev hc) (fun h => ht h a w r) (fun h => hf h a w r)
theorem run_cond_t {c : Operand} {x y : Code} (hc : V.ev c = some (.bool true)) (ht : Run E x k V H) :
    Run E (.cond c x y) k V H := fun a w r => wpIn_cond_true (r.2.2.1.ev hc) (ht a w r)
theorem run_cond_f {c : Operand} {x y : Code} (hc : V.ev c = some (.bool false)) (hf : Run E y k V H) :
    Run E (.cond c x y) k V H := fun a w r => wpIn_cond_false (r.2.2.1.ev hc) (hf a w r)

theorem goes_code {y : Code} (h : Run E y k V H) : Goes E (.code y :: k) V H := fun a w r => h a w r
theorem goes_blk {id : Nat} (h : Goes E k V H) : Goes E (.blk id :: k) V H := fun a w r => h a w r
theorem goes_scope (h : Goes E k V H) : Goes E (.scope :: k) V H := fun a w r => h a w r
theorem goes_nil (h : Fin E V H) (hB : ∀ a w, E.B .ret a w → E.B .normal a w := by exact fun _ _ h => h) : Goes E [] V H := fun a w r => hB a w (h a w r)
theorem ops_nil {ops : Array Oper} (h : Goes E k V H) : Ops E ops [] k V H := fun a w r => wpListIn_nil (h a w r)

/-- what stands behind the block that is left -/
def exitK (id : Nat) : List KI → Option (List KI)
  | .blk id' :: k => bif Nat.beq id id' then some k else exitK id k
  | _ :: k => exitK id k
  | [] => none

theorem Qof_exit (id : Nat) : ∀ (k k' : List KI) (a : Act) (w : World), exitK id k = some k' → Qof E k' .normal a w → Qof E k (.exit id) a w
  | [], _, _, _, h, _ => by simp [exitK] at h
  | .code y :: k, k', a, w, h, q => Qof_exit id k k' a w h q
  | .scope :: k, k', a, w, h, q => Qof_exit id k k' a w h q
  | .loop L :: k, k', a, w, h, q => Qof_exit id k k' a w h q
  | .blk id' :: k, k', a, w, h, q => by
    unfold exitK at h
    show Exit.inBlock id' (Qof E k) (.exit id) a w
    by_cases e : id = id'
    · subst e
      simp at h; subst h
      simpa [Exit.inBlock] using q
    · have : Nat.beq id id' = false := beqF e
      rw [this] at h
      simp only [Exit.inBlock, e, if_false]
      exact Qof_exit id k k' a w h q
theorem Qof_ret : ∀ (k : List KI) (a : Act) (w : World), E.B .ret a w → Qof E k .ret a w
  | [], _, _, q => q
  | .code _ :: k, a, w, q => Qof_ret k a w q
  | .scope :: k, a, w, q => Qof_ret k a w q
  | .loop _ :: k, a, w, q => Qof_ret k a w q
  | .blk _ :: k, a, w, q => Qof_ret k a w q

theorem run_exit {id : Nat} (k' : List KI) (hk : exitK id k = some k') (h : Goes E k' V H) : Run E (.exit id) k V H :=
  fun a w r => wpIn_exit (Qof_exit id k k' a w hk (h a w r))
theorem run_ret (h : Fin E V H) : Run E .ret k V H := fun a w r => wpIn_ret (Qof_ret k a w (h a w r))

/-! weakening -/
def VF.le (V' V : VF) : Prop := ∀ t v, V' t = some v → V t = some v
theorem VF.le_of : ∀ (l : List (Nat × Value)), (∀ x ∈ l, V x.1 = some x.2) → VF.le (VF.of l) V
  | [], _, _, _, h => by simp [VF.of] at h
  | (d, v) :: r, hl, t, x, h => by
    unfold VF.of at h
    by_cases e : t = d
    · subst e; simp at h; subst h; exact hl _ (List.mem_cons_self ..)
    · have : Nat.beq t d = false := beqF e
      rw [this] at h
      exact VF.le_of r (fun y hy => hl y (List.mem_cons_of_mem _ hy)) t x h

theorem Rel.vle {V' : VF} {a : Act} {w : World} (h : VF.le V' V) (r : Rel E V H a w) : Rel E V' H a w :=
  ⟨r.1, r.2.1, fun t v hv => r.2.2.1 t v (h t v hv), r.2.2.2⟩

/-- the assertions at the places 'is', in this order; what owned a block and is left out owns it no more -/
def reown (is : List Nat) (o : Own) : Own := fun b => match o b with
  | .mine k => if k ∈ is then .mine (is.idxOf k) else .no
  | x => x
theorem sats_pick {w : World} {o : Own} {is : List Nat} {G : List HA} (hn : is.Nodup) (hG : ∀ (j : Nat) (g : HA), G[j]? = some g → ∃ i, is[j]? = some i ∧ H[i]? = some g) (h : Sats w o H) :
    Sats w (reown is o) G := by
  intro j g hj
  obtain ⟨i, hi, hHi⟩ := hG j g hj
  refine g.keep (Nat.le_refl _) (fun b _ hb => ⟨?_, rfl⟩) (fun b _ hb => ⟨by simp [reown, hb], rfl⟩) (h i g hHi)
  have hm : i ∈ is := List.mem_of_getElem? hi
  obtain ⟨hlt, he⟩ := List.getElem?_eq_some_iff.1 hi
  simp only [reown, hb, hm, if_pos]
  congr 1
  subst he
  exact hn.idxOf_getElem j hlt
theorem bnd_reown {w : World} {o : Own} (is : List Nat) (h : Bnd w o) : Bnd w (reown is o) := fun b hb => by simp [reown, h b hb]
theorem tr_reown' {w w' : World} {o o' : Own} (is : List Nat) (h : Tr w o w' o') : Tr w o w' (reown is o') :=
  ⟨h.os, h.tape, h.output, h.size, fun b hb ho => let ⟨e1, e2⟩ := h.no b hb ho; ⟨by simp [reown, e1], e2⟩,
   fun b hb ho => let ⟨e1, e2⟩ := h.far b hb ho; ⟨by simp [reown, e1], e2⟩⟩

theorem tr_reown {w w' : World} {o o' : Own} {ds : List Deferred} (is : List Nat) (h : TrM w o ds w' o') : TrM w o ds w' (reown is o') :=
  ⟨tr_reown' is h.tr, fun d hd => let ⟨D, e, h1, h2, h3, h4⟩ := h.mks.1 d hd; ⟨D, e, h1, h2, by simp [reown, h3], h4⟩, h.mks.2⟩

def Picks (is : List Nat) (H G : List HA) : Prop := is.map (fun i => H[i]?) = G.map some
theorem Picks.get {is : List Nat} {G : List HA} (h : Picks is H G) (j : Nat) (g : HA) (hj : G[j]? = some g) : ∃ i, is[j]? = some i ∧ H[i]? = some g := by
  have h1 : (is.map (fun i => H[i]?))[j]? = (G.map some)[j]? := by rw [h]
  simp only [List.getElem?_map, hj, Option.map_some] at h1
  cases hi : is[j]? with
  | none => rw [hi] at h1; simp at h1
  | some i => rw [hi] at h1; simp at h1; exact ⟨i, rfl, h1⟩
theorem Rel.pick {a : Act} {w : World} {is : List Nat} {G : List HA} (hn : is.Nodup) (hG : Picks is H G) (r : Rel E V H a w) : Rel E V G a w := by
  obtain ⟨h1, h2, h3, o, hb, ht, hs⟩ := r
  exact ⟨h1, h2, h3, reown is o, bnd_reown is hb, tr_reown is ht, sats_pick hn hG.get hs⟩

theorem run_weak {c : Code} (l : List (Nat × Value)) (is : List Nat) (G : List HA) (hl : ∀ x ∈ l, V x.1 = some x.2) (hn : is.Nodup) (hG : Picks is H G)
    (h : Run E c k (VF.of l) G) : Run E c k V H := fun a w r => h a w ((r.vle (VF.le_of l hl)).pick hn hG)
theorem goes_weak (l : List (Nat × Value)) (is : List Nat) (G : List HA) (hl : ∀ x ∈ l, V x.1 = some x.2) (hn : is.Nodup) (hG : Picks is H G)
    (h : Goes E k (VF.of l) G) : Goes E k V H := fun a w r => h a w ((r.vle (VF.le_of l hl)).pick hn hG)

/-- a loop: its state s, what the slots and the memory hold then, what is true of s, how many rounds are left at most -/
theorem run_loop {c : Code} (S : Type) (Vi : S → List (Nat × Value)) (Hi : S → List HA) (inv : S → Prop) (μ : S → Nat) (is : List Nat) (s0 : S)
    (hl : ∀ x ∈ Vi s0, V x.1 = some x.2) (hn : is.Nodup) (hG : Picks is H (Hi s0)) (h0 : inv s0)
    (round : ∀ s, inv s → ∀ L : Act → World → Prop, (∀ s', inv s' → μ s' < μ s → ∀ a w, Rel E (VF.of (Vi s')) (Hi s') a w → L a w) → Run E c (.loop L :: k) (VF.of (Vi s)) (Hi s)) :
    Run E (.loop c) k V H := by
  intro a w r
  refine wpIn_loop_ghost (fun m a w => ∃ s, inv s ∧ μ s = m ∧ Rel E (VF.of (Vi s)) (Hi s) a w) (μ s0) ⟨s0, h0, rfl, (r.vle (VF.le_of _ hl)).pick hn hG⟩ ?_
  rintro m a w ⟨s, hi, rfl, hr⟩
  exact round s hi _ (fun s' hi' hlt a w hr' => ⟨μ s', hlt, s', hi', rfl, hr'⟩) a w hr
theorem goes_loop {L : Act → World → Prop} {S : Type} {Vi : S → List (Nat × Value)} {Hi : S → List HA} {inv : S → Prop} {μ : S → Nat} {m : Nat}
    (hL : ∀ s', inv s' → μ s' < m → ∀ a w, Rel E (VF.of (Vi s')) (Hi s') a w → L a w) (s' : S) (is : List Nat)
    (hl : ∀ x ∈ Vi s', V x.1 = some x.2) (hn : is.Nodup) (hG : Picks is H (Hi s')) (hi : inv s') (hm : μ s' < m) : Goes E (.loop L :: k) V H :=
  fun a w r => hL s' hi hm a w ((r.vle (VF.le_of _ hl)).pick hn hG)

/-! contracts -/
def Post := Value → List HA → Prop
def Ends (w : World) (o : Own) (post : Post) (e : Ending) (w' : World) : Prop :=
  ∃ v G o', e = .returned v ∧ post v G ∧ Bnd w' o' ∧ Tr w o w' o' ∧ Sats w' o' G
def Meets (P : Program) (f : FuncId) (args : List Value) (H : List HA) (post : Post) : Prop :=
  ∀ w o, Bnd w o → Sats w o H → Calls P f args.toArray w (Ends w o post)

theorem getD_append_left {l : List Value} {m : Nat} {t : Nat} (v : Value) (h : l[t]? = some v) : (l.toArray ++ Array.replicate m undef).getD t undef = v := by
  obtain ⟨hlt, he⟩ := List.getElem?_eq_some_iff.1 h
  simp [Array.getElem?_append, hlt, he]
theorem VF.args_get : ∀ (l : List Value) (i t : Nat) (v : Value), VF.args l i t = some v → i ≤ t ∧ l[t - i]? = some v
  | [], _, _, _, h => by simp [VF.args] at h
  | x :: r, i, t, v, h => by
    unfold VF.args at h
    by_cases e : t = i
    · subst e; simp at h; subst h; simp
    · have : Nat.beq t i = false := beqF e
      rw [this] at h
      obtain ⟨h1, h2⟩ := VF.args_get r (i + 1) t v h
      refine ⟨by omega, ?_⟩
      rw [show t - i = (t - (i + 1)) + 1 by omega]
      simpa using h2

/-- what is asked at the end of a function -/
def bodyB (P : Program) (fn : Func) (R : Ending → World → Prop) : Exit → Act → World → Prop
  | .panic _, _, _ => False
  | .outgrown, _, _ => False
  | e, a, w => bodyPostM (FR none) 0 P fn R e a w
def EnvF (P : Program) (n : Nat) (w0 : World) (o0 : Own) (fn : Func) (post : Post) : Env :=
  { P := P, n := n, w0 := w0, o0 := o0, r := none, B := bodyB P fn (Ends w0 o0 post), np := fun _ _ _ _ _ h => h.elim, no := fun _ _ h => h }
theorem bodyB_post {P : Program} {fn : Func} {R : Ending → World → Prop} {e : Exit} {a : Act} {w : World} (h : bodyB P fn R e a w) : bodyPostM (FR none) 0 P fn R e a w := by
  cases e <;> first | exact h | exact h.elim

theorem fn_of_run {P : Program} {f : FuncId} {fn : Func} {c : Code} {args : List Value} {H : List HA} {post : Post} {n : Nat}
    (hf : P.funcs[f]? = some fn) (hb : fn.body = some c) (hm : fn.ntmps = n) (hn : Nat.ble args.length n = true)
    (h : ∀ w0 o0, Run (EnvF P n w0 o0 fn post) c [] (VF.args args 0) H) : Meets P f args H post := by
  intro w o hbd hs
  refine callsIn_wide.1 (callsIn_of_wp_marks (F := FR none) (n := 0) hf hb trivial ?_)
  refine wpIn_mono (h w o _ _ ⟨?_, (fun _ => rfl), ?_, o, hbd, TrM.refl w o, hs⟩) (fun _ _ _ h => bodyB_post h)
  · have := Nat.le_of_ble_eq_true hn
    simp [hm, EnvF]; omega
  · intro t v hv
    obtain ⟨_, h2⟩ := VF.args_get args 0 t v hv
    exact getD_append_left v (by simpa using h2)

def tup : List Value → Value
  | [v] => v
  | vs => .tuple vs.toArray

theorem mapM_slots (tmps : Array Value) (g : ResultVar → Sem Value) (hg : ∀ t, g (.tmp t) = pure (tmps.getD t undef)) (ts : List Nat) :
    (ts.map ResultVar.tmp).toArray.mapM g = pure (ts.map fun t => tmps.getD t undef).toArray := by
  rw [List.mapM_toArray]
  have : (ts.map ResultVar.tmp).mapM g = pure (ts.map fun t => tmps.getD t undef) := by
    induction ts with
    | nil => rfl
    | cons x r ih => simp only [List.map_cons, List.mapM_cons, ih, hg, pure_bind]
  rw [this]; rfl

/-- results in slots -/
theorem results_slots {P : Program} {fn : Func} {ts : List Nat} {tmps : Array Value} {w : World} (h : fn.results = (ts.map ResultVar.tmp).toArray) :
    (results fn tmps).run P w = .ok (tup (ts.map fun t => tmps.getD t undef)) w := by
  unfold results
  rw [h, mapM_slots tmps _ (fun _ => rfl)]
  match ts with
  | [] => simp [tup]
  | [t] => simp [tup]
  | t :: u :: r => simp [tup]

/-- the marks are taken away -/
theorem Rel.leaves {P : Program} {n : Nat} {w0 : World} {o0 : Own} {fn : Func} {post : Post} {a : Act} {w : World} (r : Rel (EnvF P n w0 o0 fn post) V H a w)
    (h : ∀ w' o, Bnd w' o → Tr w0 o0 w' o → Sats w' o H → ∃ v, (results fn a.tmps).run P w' = .ok v w' ∧ Ends w0 o0 post (.returned v) w') : bodyB P fn (Ends w0 o0 post) .ret a w := by
  obtain ⟨_, _, _, o, hb, ht, hs⟩ := r
  show LeavesInM (FR none) 0 P fn a.tmps (Ends w0 o0 post) a.defers .returning w
  replace ht : TrM w0 o0 a.defers w o := ht
  generalize a.defers = ds at ht
  induction ds generalizing w with
  | nil => exact h w o hb ht.tr hs
  | cons d ds ih =>
    obtain ⟨D, e, h1, h2, h3, h4⟩ := ht.mks.1 d (List.mem_cons_self ..)
    have hnd := List.nodup_cons.1 ht.mks.2
    refine ⟨by simp, .inl ⟨D, w.putObj D (.deferred none), by rw [e], run_takeDeferred h4, ?_⟩⟩
    have hsz : (w.putObj D (.deferred none)).heap.size = w.heap.size := World.putObj_size
    have hot : ∀ b, o b ≠ .far → (w.putObj D (.deferred none)).heap[b]? = w.heap[b]? := fun b hb => World.putObj_heap_other (by rintro rfl; exact hb h3)
    refine ih ?_ ?_ ?_
    · intro b hb'; exact hb b (by rwa [hsz] at hb')
    · intro j g hj
      exact g.keep (Nat.le_of_eq hsz.symm) (fun b _ hb' => ⟨hb', hot b (by rw [hb']; simp)⟩) (fun b _ hb' => ⟨hb', hot b (by rw [hb']; simp)⟩) (hs j g hj)
    · refine ⟨⟨ht.tr.os, ht.tr.tape, ht.tr.output, by rw [hsz]; exact ht.tr.size, fun b hb' ho => ?_, fun b hb' ho => ?_⟩, fun d' hd' => ?_, hnd.2⟩
      · obtain ⟨f1, f2⟩ := ht.tr.no b hb' ho
        exact ⟨f1, (hot b (by rw [f1]; simp)).trans f2⟩
      · obtain ⟨f1, f2⟩ := ht.tr.far b hb' ho
        exact ⟨f1, (World.putObj_heap_other (by omega)).trans f2⟩
      · obtain ⟨D', e', g1, g2, g3, g4⟩ := ht.mks.1 d' (List.mem_cons_of_mem _ hd')
        refine ⟨D', e', g1, by rw [hsz]; exact g2, g3, (World.putObj_heap_other ?_).trans g4⟩
        rintro rfl
        exact hnd.1 (by rw [e, ← e']; exact hd')

/-- the end of a function whose results lie in slots: 'vs' what they hold -/
theorem fin_slots {P : Program} {n : Nat} {w0 : World} {o0 : Own} {fn : Func} {post : Post} (ts : List Nat) (vs : List Value) (is : List Nat) (G : List HA)
    (hr : fn.results = (ts.map ResultVar.tmp).toArray) (hv : ts.map V = vs.map some) (hn : is.Nodup) (hG : Picks is H G)
    (hp : post (tup vs) G) :
    Fin (EnvF P n w0 o0 fn post) V H := by
  intro a w r
  have ha := r.2.2.1
  refine (r.pick hn hG).leaves fun w' o hb ht hs => ⟨_, results_slots hr, _, G, o, rfl, ?_, hb, ht, hs⟩
  have : ts.map (fun t => a.tmps.getD t undef) = vs := by
    have key : ∀ (ts : List Nat) (vs : List Value), ts.map V = vs.map some → ts.map (fun t => a.tmps.getD t undef) = vs := by
      intro ts
      induction ts with
      | nil => intro vs h; cases vs <;> simp_all
      | cons t r ih =>
        intro vs h
        cases vs with
        | nil => simp at h
        | cons v vs =>
          simp only [List.map_cons, List.cons.injEq] at h ⊢
          exact ⟨ha t v h.1, ih vs h.2⟩
    exact key ts vs hv
  rw [this]
  exact hp

end Go.Abs
