/-
  A range over a function: the round, the call of yield, the statement.
-/
import Derived.Test.YtigiikkenamneaaAbsCallX
namespace Go.Abs
variable {E : Env} {k : List KI} {V : VF} {H : List HA}

theorem bltF {a b : Nat} (h : b ≤ a) : Nat.blt a b = false := by
  cases e : Nat.blt a b with
  | false => rfl
  | true => simp at e; omega
theorem bltT {a b : Nat} (h : a < b) : Nat.blt a b = true := by simpa using h
theorem alloc_old (w : World) (o : Obj) (k : Nat) (h : k < w.heap.size) : (w.alloc o).heap[k]? = w.heap[k]? := by
  simp only [World.alloc, Array.getElem?_push]
  rw [if_neg (by omega)]
/-- the loop's record is ours -/
def loopHA (l : Nat) (r : Loop) : HA :=
  ⟨fun w o k => o l = .mine k ∧ l < w.heap.size ∧ w.heap[l]? = some (.loop r), fun hs h1 _ ⟨a, b, c⟩ => ⟨(h1 _ b a).1, Nat.lt_of_lt_of_le b hs, (h1 _ b a).2.trans c⟩⟩
/-- a loop's record and what its body works upon, as one -/
def packHA {G : Type} (l : Nat) (r : Loop) (Hs : G → List HA) : HA :=
  ⟨fun w o k => ∃ g o', Bnd w o' ∧ Sats w o' (loopHA l r :: Hs g) ∧ (∀ b j, o' b = .mine j → o b = .mine k ∧ b < w.heap.size) ∧ (∀ b, b < w.heap.size → o' b = .no → o b = .no),
   fun {w w' o o2 k k2} hs h1 h2 ⟨g, o', hb, hS, hm, hn⟩ => by
    refine ⟨g, fun b => bif Nat.blt b w.heap.size then o' b else (bif Nat.blt b w'.heap.size then .far else .no), ?_, ?_, ?_, ?_⟩
    · intro b hb'
      have e1 : Nat.blt b w.heap.size = false := bltF (Nat.le_trans hs hb')
      have e2 : Nat.blt b w'.heap.size = false := bltF hb'
      simp [e1, e2]
    · intro j h hj
      refine h.keep hs (fun b hlt ho => ?_) (fun b hlt ho => ?_) (hS j h hj)
      · have e1 : Nat.blt b w.heap.size = true := bltT hlt
        exact ⟨by simp [e1, ho], (h1 b hlt (hm b j ho).1).2⟩
      · have e1 : Nat.blt b w.heap.size = true := bltT hlt
        exact ⟨by simp [e1, ho], (h2 b hlt (hn b hlt ho)).2⟩
    · intro b j ho
      cases e1 : Nat.blt b w.heap.size with
      | true =>
        simp only [e1, cond_true] at ho
        have := hm b j ho
        exact ⟨(h1 b this.2 this.1).1, Nat.lt_of_lt_of_le this.2 hs⟩
      | false =>
        simp only [e1, cond_false] at ho
        cases e2 : Nat.blt b w'.heap.size <;> simp [e2] at ho
    · intro b hlt ho
      cases e1 : Nat.blt b w.heap.size with
      | true =>
        simp only [e1, cond_true] at ho
        have hlt' : b < w.heap.size := by simpa using e1
        exact (h2 b hlt' (hn b hlt' ho)).1
      | false =>
        have e2 : Nat.blt b w'.heap.size = true := by simpa using hlt
        simp [e1, e2] at ho⟩

/-- all but what k holds stays -/
def TrK (w : World) (o : Own) (k : Nat) (w' : World) (o' : Own) : Prop :=
  Tr w o w' o' ∧ ∀ b j, b < w.heap.size → j ≠ k → o b = .mine j → o' b = .mine j ∧ w'.heap[b]? = w.heap[b]?
/-- a call of yield in what A says -/
def YMeets (P : Program) (l : Nat) (args : List Value) (A : HA) (b : Bool) (A' : HA) : Prop :=
  ∀ w o k, Bnd w o → A.p w o k → ∃ f tmps assign body, (Instr.yield l args.toArray).run P w = .ok (.round l f tmps assign body) w ∧
    RoundIn (FR none) 0 P l f tmps assign body w (fun e w'' => e = .returned (.bool b) ∧ ∃ o', Bnd w'' o' ∧ TrK w o k w'' o' ∧ A'.p w'' o' k)

theorem t_yield {P : Program} {d : Option Nat} {ty : TypeId} {pos : String} {af : Array Edge} {g : Option (Nat × Bool)} {fx : Operand} {xs : Array Operand} {Ts : Array TypeId} {vs : List Value} {A A' : HA} {b : Bool} {l : Nat}
    (m : Nat) (hfx : V.ev fx = some (.func (.yield l) #[] #[])) (hxs : xs.toList.map V.ev = vs.map some) (hm : H[m]? = some A) (hy : YMeets P l vs A b A') :
    OpR P ⟨d, .call ⟨.value fx, xs, Ts⟩, ty, pos, af, g⟩ V H (fun v' H' => v' = .bool b ∧ H' = H.set m A') := by
  refine ⟨fun c h => by simp at h, fun ρ w o hf hb hs => ?_⟩
  have hargs : (xs.map ρ) = vs.toArray := by
    apply Array.ext'
    rw [Array.toList_map]
    generalize xs.toList = l at hxs
    clear hy
    induction l generalizing vs with
    | nil => cases vs <;> simp_all
    | cons x r ih =>
      cases vs with
      | nil => simp at hxs
      | cons v vs =>
        simp only [List.map_cons, List.cons.injEq] at hxs ⊢
        exact ⟨hf _ _ hxs.1, ih hxs.2⟩
  obtain ⟨f, tmps, assign, body, e, hr⟩ := hy w o m hb (hs m A hm)
  refine ⟨l, f, tmps, assign, body, ?_, hr.mono ?_⟩
  · simp [execOp, resolve, invoke, Deferred.ofValue, hf fx _ hfx, hargs]
    exact e
  · rintro e w'' ⟨rfl, o', hb', ht, ha⟩
    refine ⟨_, rfl, H.set m A', o', ⟨rfl, rfl⟩, hb', ht.1, ?_⟩
    intro j h hj
    by_cases hjm : m = j
    · subst hjm
      rw [List.getElem?_set] at hj
      simp at hj
      obtain ⟨_, rfl⟩ := hj
      exact ha
    · rw [List.getElem?_set_ne hjm] at hj
      exact h.keep ht.1.size (fun b hlt ho => ht.2 b j hlt (Ne.symm hjm) ho) (fun b hlt ho => ht.1.no b hlt ho) (hs j h hj)

/-- the record of a loop's statement -/
def recOf (fn : FuncId) (tmps : Array Value) (ps : Array Tmp) (assign body : Code) (D : Nat) (st : LoopState) (pe : Option Code) : Loop :=
  { state := st, pending := pe, fn := fn, tmps := tmps, params := ps, assign := assign, body := body, defers := D }
/-- what the statement holds between two rounds: i: the jump by which a round has left -/
def loopYA {S G : Type} (l : Nat) (rc : LoopState → Option Code → Loop) (jumps : List Code) (Hs : S → G → List HA) : S × Option Nat → HA
  | (s, none) => packHA l (rc .ready none) (Hs s)
  | (s, some i) => packHA l (rc .done (jumps[i]?)) (Hs s)
def yieldOf {S X : Type} (step : S → X → Option (S × Option Nat)) (σ : S × Option Nat) (x : X) : Option ((S × Option Nat) × Bool) :=
  match σ.2 with
  | none => (step σ.1 x).map fun r => (r, r.2.isNone)
  | some _ => none
def roundOK : Exit → Option Nat → List Code → Prop
  | .normal, none, _ => True
  | .ret, some i, jumps => jumps[i]? = some .ret
  | .exit id, some i, jumps => jumps[i]? = some (.exit id)
  | _, _, _ => False
def EnvA (P : Program) (n : Nat) (w0 : World) (o0 : Own) (l : Nat) : Env :=
  { P := P, n := n, w0 := w0, o0 := o0, r := some l, B := fun _ _ _ => False, np := fun _ _ _ _ _ h => h, no := fun _ _ h => h }
def EnvR {G : Type} (P : Program) (n : Nat) (w0 : World) (o0 : Own) (l : Nat) (Hs : G → List HA) (j : Option Nat) (jumps : List Code) : Env :=
  { P := P, n := n, w0 := w0, o0 := o0, r := some l, B := fun e _ w => roundOK e j jumps ∧ ∃ g o, Bnd w o ∧ Tr w0 o0 w o ∧ Sats w o (Hs g),
    np := fun _ _ _ _ _ h => by cases j <;> exact h.1.elim, no := fun _ _ h => by cases j <;> exact h.1.elim }
def isK (k : Nat) : Ow → Bool
  | .mine j => j == k
  | _ => false
/-- who owns what behind a round -/
def backO (l k n : Nat) (o o3 : Own) : Own := fun b => if b = l then .mine k else if b < n ∧ isK k (o b) = false then o b else (match o3 b with | .mine _ => .mine k | x => x)
def upO (l : Nat) (o3 : Own) : Own := fun b => if b = l then .mine 0 else (match o3 b with | .mine i => .mine (i + 1) | x => x)
def downO (o : Own) : Own := fun b => match o b with | .mine 0 => .far | .mine (i + 1) => .mine i | x => x

theorem round_meets {S X G : Type} {P : Program} {n l : Nat} {fn : FuncId} {tmps : Array Value} {ps : Array Tmp} {assign body : Code} {D : Nat} {jumps : List Code} {Hs : S → G → List HA} {step : S → X → Option (S × Option Nat)}
    (enc : X → List Value) (V0 : X → VF) (hsz : tmps.size = n) (hps : ∀ x, (enc x).length = ps.size)
    (hV0 : ∀ x, Agree (V0 x) { tmps := (ps.zip (enc x).toArray).foldl (fun tmps (t, a) => tmps.setIfInBounds t a) tmps, defers := [] })
    (hround : ∀ s x s' j, step s x = some (s', j) → ∀ g w0 o0 (L : Act → World → Prop),
      (∀ V1 H1, (∀ w1 o1, Run (EnvR P n w1 o1 l (Hs s') j jumps) body [] V1 H1) → ∀ a w, Rel (EnvA P n w0 o0 l) V1 H1 a w → L a w) → Run (EnvA P n w0 o0 l) assign [.loop L] (V0 x) (Hs s g))
    (σ : S × Option Nat) (x : X) (r : (S × Option Nat) × Bool) (h : yieldOf step σ x = some r) :
    YMeets P l (enc x) (loopYA l (recOf fn tmps ps assign body D) jumps Hs σ) r.2 (loopYA l (recOf fn tmps ps assign body D) jumps Hs r.1) := by
  obtain ⟨s, i0⟩ := σ
  cases i0 with
  | some i => simp [yieldOf] at h
  | none =>
  simp only [yieldOf, Option.map_eq_some_iff] at h
  obtain ⟨⟨s', j⟩, hst, rfl⟩ := h
  rintro w o k hb ⟨g, o', hb', hS, hm, hn⟩
  obtain ⟨hl1, hl2, hl3⟩ := hS 0 _ rfl
  refine ⟨fn, _, assign, body, run_yield hl3 (by simp [recOf, hps]), roundIn_of_wpIn (F := FR none) trivial ?_⟩
  have hdo : ∀ b, downO o' b = .far → ∀ j, o' b = .mine j → j = 0 := by
    intro b hb j hj
    cases j with
    | zero => rfl
    | succ j => simp [downO, hj] at hb
  have hszf : ∀ (ts : List (Tmp × Value)) (t0 : Array Value), (ts.foldl (fun tmps (t, a) => tmps.setIfInBounds t a) t0).size = t0.size := by
    intro ts
    induction ts with
    | nil => intro t0; rfl
    | cons p r ih => intro t0; rw [List.foldl_cons, ih]; simp
  refine hround s x s' j hst g w (downO o') _ ?_ _ w ⟨?_, fun _ => rfl, hV0 x, downO o', ?_, ⟨Tr.refl _ _, Marked.nil _ _ _⟩, ?_⟩
  · -- the body
    rintro V1 H1 hbody a1 w1 ⟨hz1, hd1, ha1, o1, hb1, ht1, hs1⟩
    have hd1 : a1.defers = [] := hd1 rfl
    have ht1 : Tr w (downO o') w1 o1 := ht1.tr
    obtain ⟨hf1, hh1⟩ := ht1.far l hl2 (by simp [downO, hl1])
    have hl1' : w1.heap[l]? = some (.loop (recOf fn tmps ps assign body D .ready none)) := hh1.trans hl3
    have hlt1 : l < w1.heap.size := Nat.lt_of_lt_of_le hl2 ht1.size
    refine ⟨_, run_beginRound hl1' rfl, ?_⟩
    obtain ⟨w2, hw2⟩ : ∃ w2, w1.putObj l (.loop { recOf fn tmps ps assign body D .ready none with state := .busy }) = w2 := ⟨_, rfl⟩
    rw [hw2]
    have hsz2 : w2.heap.size = w1.heap.size := by rw [← hw2]; exact World.putObj_size
    have hl2' : w2.heap[l]? = some (.loop { recOf fn tmps ps assign body D .ready none with state := .busy }) := by rw [← hw2]; exact World.putObj_heap_same hlt1
    have hot2 : ∀ b, b ≠ l → w2.heap[b]? = w1.heap[b]? := fun b hb => by rw [← hw2]; exact World.putObj_heap_other hb
    refine wpIn_mono (hbody w2 o1 a1 w2 ⟨hz1, fun _ => hd1, ha1, o1, fun b hb => hb1 b (by omega), ⟨Tr.refl _ _, by rw [hd1]; exact Marked.nil _ _ _⟩, ?_⟩) ?_
    · intro j h hj
      exact h.keep (Nat.le_of_eq hsz2.symm) (fun b _ ho => ⟨ho, hot2 b (by rintro rfl; rw [hf1] at ho; cases ho)⟩) (fun b _ ho => ⟨ho, hot2 b (by rintro rfl; rw [hf1] at ho; cases ho)⟩) (hs1 j h hj)
    · rintro e a3 w3 ⟨hok, g', o3, hb3, ht3, hs3⟩
      obtain ⟨hf3, hh3⟩ := ht3.far l (by omega) hf1
      have hl3' : w3.heap[l]? = some (.loop { recOf fn tmps ps assign body D .ready none with state := .busy }) := hh3.trans hl2'
      have hlt3 : l < w3.heap.size := Nat.lt_of_lt_of_le (by omega) ht3.size
      -- what lay apart from the round
      have apart : ∀ b, b < w.heap.size → isK k (o b) = false → b ≠ l ∧ o3 b = o' b ∧ (o' b = .no ∨ o' b = .far) ∧ w3.heap[b]? = w.heap[b]? := by
        intro b hlt hk
        have hne : ∀ i, o' b ≠ .mine i := fun i hi => by
          have := (hm b i hi).1
          rw [this] at hk; simp [isK] at hk
        have hbl : b ≠ l := by rintro rfl; exact hne 0 hl1
        cases ho : o' b with
        | mine i => exact absurd ho (hne i)
        | no =>
          obtain ⟨e1, e2⟩ := ht1.no b hlt (by simp [downO, ho])
          obtain ⟨e3, e4⟩ := ht3.no b (by have := ht1.size; omega) e1
          exact ⟨hbl, e3, .inl rfl, e4.trans ((hot2 b hbl).trans e2)⟩
        | far =>
          obtain ⟨e1, e2⟩ := ht1.far b hlt (by simp [downO, ho])
          obtain ⟨e3, e4⟩ := ht3.far b (by have := ht1.size; omega) e1
          exact ⟨hbl, e3, .inr rfl, e4.trans ((hot2 b hbl).trans e2)⟩
      have fin : ∀ (jump : Option Code) (st : LoopState), (∃ o2, Bnd (w3.putObj l (.loop (recOf fn tmps ps assign body D st jump))) o2 ∧ TrK w o k (w3.putObj l (.loop (recOf fn tmps ps assign body D st jump))) o2 ∧
          (packHA l (recOf fn tmps ps assign body D st jump) (Hs s')).p (w3.putObj l (.loop (recOf fn tmps ps assign body D st jump))) o2 k) := by
        intro jump st
        obtain ⟨w4, hw4⟩ : ∃ w4, w3.putObj l (.loop (recOf fn tmps ps assign body D st jump)) = w4 := ⟨_, rfl⟩
        rw [hw4]
        have hsz4 : w4.heap.size = w3.heap.size := by rw [← hw4]; exact World.putObj_size
        have hl4 : w4.heap[l]? = some (.loop (recOf fn tmps ps assign body D st jump)) := by rw [← hw4]; exact World.putObj_heap_same hlt3
        have hot4 : ∀ b, b ≠ l → w4.heap[b]? = w3.heap[b]? := fun b hb => by rw [← hw4]; exact World.putObj_heap_other hb
        have hsz : w.heap.size ≤ w4.heap.size := by have := ht1.size; have := ht3.size; omega
        have hkeep : ∀ b, b < w.heap.size → isK k (o b) = false → backO l k w.heap.size o o3 b = o b ∧ w4.heap[b]? = w.heap[b]? := by
          intro b hlt hk
          obtain ⟨h1, _, _, h4⟩ := apart b hlt hk
          exact ⟨by simp [backO, h1, hlt, hk], (hot4 b h1).trans h4⟩
        refine ⟨backO l k w.heap.size o o3, ?_, ⟨⟨?_, ?_, ?_, hsz, ?_, ?_⟩, ?_⟩, g', upO l o3, ?_, ?_, ?_, ?_⟩
        · intro b hb
          have h1 : b ≠ l := by omega
          have h2 : ¬ (b < w.heap.size) := by omega
          simp [backO, h1, h2, hb3 b (by omega)]
        · rw [← hw4]; exact ht3.os.trans (by rw [← hw2]; exact ht1.os)
        · rw [← hw4]; exact ht3.tape.trans (by rw [← hw2]; exact ht1.tape)
        · rw [← hw4]; exact ht3.output.trans (by rw [← hw2]; exact ht1.output)
        · intro b hlt ho
          obtain ⟨e1, e2⟩ := hkeep b hlt (by simp [isK, ho])
          exact ⟨e1.trans ho, e2⟩
        · intro b hlt ho
          obtain ⟨e1, e2⟩ := hkeep b hlt (by simp [isK, ho])
          exact ⟨e1.trans ho, e2⟩
        · intro b i hlt hi ho
          obtain ⟨e1, e2⟩ := hkeep b hlt (by simp [isK, ho, hi])
          exact ⟨e1.trans ho, e2⟩
        · intro b hb
          have h1 : b ≠ l := by omega
          simp [upO, h1, hb3 b (by omega)]
        · intro i h hi
          cases i with
          | zero => simp at hi; subst hi; exact ⟨by simp [upO], by omega, hl4⟩
          | succ i =>
            refine h.keep (Nat.le_of_eq hsz4.symm) (fun b _ ho => ?_) (fun b _ ho => ?_) (hs3 i h (by simpa using hi))
            · have hbl : b ≠ l := by rintro rfl; rw [hf3] at ho; cases ho
              exact ⟨by simp [upO, hbl, ho], hot4 b hbl⟩
            · have hbl : b ≠ l := by rintro rfl; rw [hf3] at ho; cases ho
              exact ⟨by simp [upO, hbl, ho], hot4 b hbl⟩
        · intro b i ho
          by_cases hbl : b = l
          · subst hbl; exact ⟨by simp [backO], by omega⟩
          · simp only [upO, hbl, if_false] at ho
            cases h3 : o3 b with
            | no => simp [h3] at ho
            | far => simp [h3] at ho
            | mine q =>
              have hb : b < w3.heap.size := by
                apply Nat.lt_of_not_le
                intro hle
                rw [hb3 b hle] at h3; cases h3
              refine ⟨?_, by omega⟩
              have : ¬ (b < w.heap.size ∧ isK k (o b) = false) := fun ⟨h1, h2⟩ => by
                obtain ⟨_, e1, e2, _⟩ := apart b h1 h2
                rw [h3] at e1
                rcases e2 with e2 | e2 <;> rw [e2] at e1 <;> cases e1
              simp [backO, hbl, this, h3]
        · intro b hlt ho
          by_cases hbl : b = l
          · subst hbl; simp [upO] at ho
          · simp only [upO, hbl, if_false] at ho
            have h3 : o3 b = .no := by
              cases h3 : o3 b with
              | no => rfl
              | far => simp [h3] at ho
              | mine q => simp [h3] at ho
            by_cases hc : b < w.heap.size ∧ isK k (o b) = false
            · obtain ⟨_, e1, e2, _⟩ := apart b hc.1 hc.2
              rw [h3] at e1
              unfold backO
              rw [if_neg hbl, if_pos hc]
              exact hn b hc.1 e1.symm
            · unfold backO
              rw [if_neg hbl, if_neg hc, h3]
      cases e with
      | normal =>
        cases j with
        | some i => exact hok.elim
        | none => obtain ⟨o2, f1, f2, f3⟩ := fin none .ready; exact ⟨_, _, run_endRound none hl3', rfl, o2, f1, f2, f3⟩
      | ret =>
        cases j with
        | none => exact hok.elim
        | some i =>
          replace hok : jumps[i]? = some .ret := hok
          obtain ⟨o2, f1, f2, f3⟩ := fin (some .ret) .done
          exact ⟨_, _, run_endRound (some .ret) hl3', rfl, o2, f1, f2, by simp only [loopYA, hok]; exact f3⟩
      | exit id =>
        cases j with
        | none => exact hok.elim
        | some i =>
          replace hok : jumps[i]? = some (.exit id) := hok
          obtain ⟨o2, f1, f2, f3⟩ := fin (some (.exit id)) .done
          exact ⟨_, _, run_endRound (some (.exit id)) hl3', rfl, o2, f1, f2, by simp only [loopYA, hok]; exact f3⟩
      | goto t => cases j <;> exact hok.elim
      | panic c => cases j <;> exact hok.elim
      | outgrown => cases j <;> exact hok.elim
  · rw [← Array.foldl_toList]; exact (hszf _ _).trans hsz
  · intro b hb; simp [downO, hb' b hb]
  · intro i h hi
    refine h.keep (Nat.le_refl _) (fun b _ ho => ⟨by simp [downO, ho], rfl⟩) (fun b _ ho => ⟨by simp [downO, ho], rfl⟩) (hS (i + 1) h (by simpa using hi))

/-! a round's ends -/
section
variable {S G : Type} {P : Program} {n l : Nat} {w0 : World} {o0 : Own} {Hs : G → List HA} {jumps : List Code} {j : Option Nat} {body : Code}
theorem goes_round {w0' : World} {o0' : Own} {L : Act → World → Prop} (hL : ∀ V1 H1, (∀ w1 o1, Run (EnvR P n w1 o1 l Hs j jumps) body [] V1 H1) → ∀ a w, Rel (EnvA P n w0' o0' l) V1 H1 a w → L a w)
    (h : ∀ w1 o1, Run (EnvR P n w1 o1 l Hs j jumps) body [] V H) : Goes (EnvA P n w0' o0' l) (.loop L :: k) V H := fun a w r => hL V H h a w r
theorem round_go (g : G) (is : List Nat) (hn : is.Nodup) (hG : Picks is H (Hs g)) (hj : j = none) : Goes (EnvR P n w0 o0 l Hs j jumps) [] V H := by
  subst hj
  intro a w r
  obtain ⟨_, _, _, o, hb, ht, hs⟩ := r.pick hn hG
  exact ⟨trivial, g, o, hb, ht.tr, hs⟩
theorem round_ret (i : Nat) (g : G) (is : List Nat) (hn : is.Nodup) (hG : Picks is H (Hs g)) (hj : j = some i) (hi : jumps[i]? = some .ret) : Run (EnvR P n w0 o0 l Hs j jumps) .ret k V H := by
  subst hj
  intro a w r
  obtain ⟨_, _, _, o, hb, ht, hs⟩ := r.pick hn hG
  exact wpIn_ret (Qof_ret k a w ⟨hi, g, o, hb, ht.tr, hs⟩)
theorem Qof_exitN (id : Nat) : ∀ (k : List KI) (a : Act) (w : World), exitK id k = none → E.B (.exit id) a w → Qof E k (.exit id) a w
  | [], _, _, _, q => q
  | .code y :: k, a, w, h, q => Qof_exitN id k a w h q
  | .scope :: k, a, w, h, q => Qof_exitN id k a w h q
  | .loop L :: k, a, w, h, q => Qof_exitN id k a w h q
  | .blk id' :: k, a, w, h, q => by
    unfold exitK at h
    show Exit.inBlock id' (Qof E k) (.exit id) a w
    by_cases e : id = id'
    · subst e; simp at h
    · have : Nat.beq id id' = false := beqF e
      rw [this] at h
      simp only [Exit.inBlock, e, if_false]
      exact Qof_exitN id k a w h q
theorem round_exit {id : Nat} (i : Nat) (g : G) (is : List Nat) (hk : exitK id k = none) (hn : is.Nodup) (hG : Picks is H (Hs g)) (hj : j = some i) (hi : jumps[i]? = some (.exit id)) :
    Run (EnvR P n w0 o0 l Hs j jumps) (.exit id) k V H := by
  subst hj
  intro a w r
  obtain ⟨_, _, _, o, hb, ht, hs⟩ := r.pick hn hG
  exact wpIn_exit (Qof_exitN id k a w hk ⟨hi, g, o, hb, ht.tr, hs⟩)
end

/-! the statement -/
def VF.sets : List (Nat × Value) → VF → VF
  | [], V => V
  | (p, v) :: r, V => VF.sets r (V.set p v)
theorem agree_sets {n : Nat} : ∀ (ps : List Nat) (vs : List Value) (V : VF) (t : Array Value), t.size = n → (ps.all fun p => Nat.blt p n) = true → Agree V { tmps := t, defers := [] } →
    Agree (VF.sets (ps.zip vs) V) { tmps := (ps.zip vs).foldl (fun tmps (t, a) => tmps.setIfInBounds t a) t, defers := [] }
  | [], vs, V, t, _, _, h => by simpa [VF.sets] using h
  | p :: ps, [], V, t, _, _, h => by simpa [VF.sets] using h
  | p :: ps, v :: vs, V, t, hz, hp, h => by
    simp only [List.all_cons, Bool.and_eq_true] at hp
    have hlt : p < t.size := by rw [hz]; simpa using hp.1
    refine agree_sets ps vs (V.set p v) (t.setIfInBounds p v) (by simp [hz]) hp.2 ?_
    intro u x hx
    rcases VF.set_eq hx with ⟨rfl, rfl⟩ | ⟨hne, hx⟩
    · simp [hlt]
    · have := h u x hx
      simp only [Array.getD_eq_getD_getElem?] at this ⊢
      rw [Array.getElem?_setIfInBounds_ne (by omega)]
      exact this
theorem lentOut_snoc : ∀ (sh : List (Nat × Nat)) (H : List HA), lentOut sh (H ++ [HA.emp]) = lentOut sh H ++ [HA.emp]
  | [], H => rfl
  | s :: sh, H => by
    unfold lentOut
    rw [List.foldl_cons, List.foldl_cons]
    have key : (if s.2 == 2 then (H ++ [HA.emp]).set s.1 HA.emp else H ++ [HA.emp]) = (if s.2 == 2 then H.set s.1 HA.emp else H) ++ [HA.emp] := by
      split
      · by_cases hlt : s.1 < H.length
        · rw [List.set_append_left _ _ hlt]
        · rw [List.set_append_right _ _ (by omega), List.set_eq_of_length_le (l := H) (by omega)]
          by_cases h0 : s.1 - H.length = 0
          · rw [h0]; rfl
          · rw [List.set_eq_of_length_le (by simp; omega)]
      · rfl
    rw [key]
    exact lentOut_snoc sh _

theorem sats_add' {w : World} {o : Own} {H : List HA} {g : HA} (hs : Sats w o H) (hg : g.p w o H.length) : Sats w o (H ++ [g]) := by
  intro j h hj
  rw [List.getElem?_append] at hj
  split at hj
  · exact hs j h hj
  · rename_i hlt
    have h0 : j - H.length = 0 := by
      by_cases h0 : j - H.length = 0
      · exact h0
      · rw [show j - H.length = (j - H.length - 1) + 1 by omega] at hj; simp at hj
    rw [h0] at hj
    simp at hj
    subst hj
    obtain rfl : j = H.length := by omega
    exact hg
theorem run_rangeFunc {S X G : Type} {gx : Operand} {gf : FuncId} {caps : List Value} {ps : List Tmp} {assign body : Code} {jumps : List Code} {Hs : S → G → List HA} {step : S → X → Option (S × Option Nat)} (enc : X → List Value)
    (s0 : S) (g0 : G) (is : List Nat) (sh : List (Nat × Nat)) {Hc Gr : List HA} {r : S × Option Nat}
    (hE : E.r = none) (hg : V.ev gx = some (.func (.func gf) #[] caps.toArray)) (hcall : ∀ args w, (callFunc gf args).run E.P w = .ok (.enter gf args) w)
    (hps : ∀ x, (enc x).length = ps.length) (hpn : (ps.all fun p => Nat.blt p E.n) = true) (hn : is.Nodup) (hG : Picks is H (Hs s0 g0))
    (hround : ∀ l s x s' j, step s x = some (s', j) → ∀ g w0 o0 (L : Act → World → Prop),
      (∀ V1 H1, (∀ w1 o1, Run (EnvR E.P E.n w1 o1 l (Hs s') j jumps) body [] V1 H1) → ∀ a w, Rel (EnvA E.P E.n w0 o0 l) V1 H1 a w → L a w) → Run (EnvA E.P E.n w0 o0 l) assign [.loop L] (VF.sets (ps.zip (enc x)) V) (Hs s g))
    (hit : ∀ (l : Nat) (A : S × Option Nat → HA), (∀ σ x r, yieldOf step σ x = some r → YMeets E.P l (enc x) (A σ) r.2 (A r.1)) →
      Meets E.P gf (.func (.yield l) #[] #[] :: caps) (A (s0, none) :: Hc) (fun v G => v = .tuple #[] ∧ G = A r :: Gr))
    (hsh : ShowsX (lentOut (is.map fun i => (i, 2)) H) sh Hc) (hok : okX ((H.length, 2) :: sh) = true) (hst : (sh.all fun s => s.2 != 1) = true)
    (hgo : r.2 = none → ∀ g, Goes E k V (lentOut sh (lentOut (is.map fun i => (i, 2)) H) ++ Gr ++ Hs r.1 g))
    (hjump : ∀ i, r.2 = some i → ∃ c, jumps[i]? = some c ∧ ∀ g, Run E c k V (lentOut sh (lentOut (is.map fun i => (i, 2)) H) ++ Gr ++ Hs r.1 g)) :
    Run E (.rangeFunc gx ps.toArray assign body) k V H := by
  intro a w rel
  have hag := rel.2.2.1.ev hg
  refine wpIn_rangeFunc ?_
  intro fn _
  obtain ⟨hz, hd, ha, o, hb, ht, hs⟩ := rel
  show ∃ l mark w₁ d w₁' f args w₂, (Instr.enterLoop fn a.tmps ps.toArray assign body E.r).run E.P w = .ok (l, mark) w₁ ∧ _
  rw [hE]
  obtain ⟨H1, hH1⟩ : ∃ H1, lentOut (is.map fun i => (i, 2)) H = H1 := ⟨_, rfl⟩
  rw [hH1] at hsh hgo hjump
  obtain ⟨rc, hrc⟩ : ∃ rc, recOf fn a.tmps ps.toArray assign body w.heap.size = rc := ⟨_, rfl⟩
  obtain ⟨W1, hW1⟩ : ∃ W1, (w.alloc (.deferred (some []))).alloc (.loop (rc .ready none)) = W1 := ⟨_, rfl⟩
  have hlen1 : H1.length = H.length := by rw [← hH1]; exact lentOut_length _ _
  have hsize : W1.heap.size = w.heap.size + 2 := by rw [← hW1]; simp
  have hL1 : W1.heap[w.heap.size + 1]? = some (.loop (rc .ready none)) := by
    rw [← hW1]; have := World.alloc_heap_new (w.alloc (.deferred (some []))) (.loop (rc .ready none)); rwa [World.size_alloc] at this
  have hK1 : W1.heap[w.heap.size]? = some (.deferred (some [])) := by
    rw [← hW1]; exact (alloc_old _ _ _ (by simp)).trans (World.alloc_heap_new w _)
  have hO1 : ∀ b, b < w.heap.size → W1.heap[b]? = w.heap[b]? := fun b hb => by
    rw [← hW1]; exact (alloc_old _ _ _ (by simp; omega)).trans (alloc_old _ _ _ hb)
  obtain ⟨l, hl⟩ : ∃ l, w.heap.size + 1 = l := ⟨_, rfl⟩
  rw [hl] at hL1
  refine ⟨l, [{ target := .collected w.heap.size, args := #[] }], W1, { target := .fn (.func gf) caps.toArray, args := #[.func (.yield l) #[] #[]] }, W1, gf, (.func (.yield l) #[] #[] :: caps).toArray, W1, ?_, ?_, fun _ _ => trivial, ?_, (fun h => nomatch h), ?_⟩
  · rw [← hW1, ← hrc, ← hl]; exact run_enterLoop_outer _ _ _ _ _
  · simp only [resolve, hag]
    simp [go_sem]
  · simp [invoke, go_sem, hcall]
  · -- who owns what while the function runs
    obtain ⟨o1, ho1⟩ : ∃ o1 : Own, (fun b => if b = w.heap.size then .far else if b = l then .mine H.length else (match o b with | .mine j => if j ∈ is then .mine H.length else .mine j | x => x)) = o1 := ⟨_, rfl⟩
    obtain ⟨op0, hop0⟩ : ∃ op0 : Own, (fun b => if b = w.heap.size then .far else if b = l then .mine 0 else (match o b with | .mine j => if j ∈ is then .mine (is.idxOf j + 1) else .far | x => x)) = op0 := ⟨_, rfl⟩
    have o1D : o1 w.heap.size = .far := by rw [← ho1]; simp
    have o1l : o1 l = .mine H.length := by rw [← ho1]; have : ¬ l = w.heap.size := by omega
                                           simp [this]
    have o1o : ∀ b, b < w.heap.size → o1 b = (match o b with | .mine j => if j ∈ is then .mine H.length else .mine j | x => x) := fun b hb => by
      have h1 : ¬ b = w.heap.size := by omega
      have h2 : ¬ b = l := by omega
      rw [← ho1]; simp [h1, h2]
    have op0o : ∀ b, b < w.heap.size → op0 b = (match o b with | .mine j => if j ∈ is then .mine (is.idxOf j + 1) else .far | x => x) := fun b hb => by
      have h1 : ¬ b = w.heap.size := by omega
      have h2 : ¬ b = l := by omega
      rw [← hop0]; simp [h1, h2]
    have op0l : op0 l = .mine 0 := by rw [← hop0]; have : ¬ l = w.heap.size := by omega
                                      simp [this]
    have op0D : op0 w.heap.size = .far := by rw [← hop0]; simp
    have hb1 : Bnd W1 o1 := fun b hb' => by
      have h1 : ¬ b = w.heap.size := by omega
      have h2 : ¬ b = l := by omega
      rw [← ho1]; simp [h1, h2, hb b (by omega)]
    have hbp0 : Bnd W1 op0 := fun b hb' => by
      have h1 : ¬ b = w.heap.size := by omega
      have h2 : ¬ b = l := by omega
      rw [← hop0]; simp [h1, h2, hb b (by omega)]
    have ht1 : Tr w o W1 o1 := ⟨by rw [← hW1]; rfl, by rw [← hW1]; rfl, by rw [← hW1]; rfl, by omega,
      fun b hlt ho => ⟨by rw [o1o b hlt, ho], hO1 b hlt⟩, fun b hlt ho => ⟨by rw [o1o b hlt, ho], hO1 b hlt⟩⟩
    obtain ⟨A, hA⟩ : ∃ A, loopYA l rc jumps Hs = A := ⟨_, rfl⟩
    have hA0 : (A (s0, none)).p W1 o1 H.length := by
      rw [← hA]
      refine ⟨g0, op0, hbp0, ?_, ?_, ?_⟩
      · intro i h hi
        cases i with
        | zero => simp at hi; subst hi; exact ⟨op0l, by omega, hL1⟩
        | succ i =>
          obtain ⟨q, hq, hHq⟩ := Picks.get hG i h (by simpa using hi)
          have hm : q ∈ is := List.mem_of_getElem? hq
          obtain ⟨hlt, he⟩ := List.getElem?_eq_some_iff.1 hq
          have hidx : is.idxOf q = i := by subst he; exact hn.idxOf_getElem i hlt
          exact h.keep (w := w) (o := o) (k := q) (by omega) (fun b hlt ho => ⟨by rw [op0o b hlt, ho]; simp [hm, hidx], hO1 b hlt⟩) (fun b hlt ho => ⟨by rw [op0o b hlt, ho], hO1 b hlt⟩) (hs q h hHq)
      · intro b j ho
        by_cases h1 : b = l
        · subst h1; exact ⟨o1l, by omega⟩
        · by_cases h2 : b = w.heap.size
          · subst h2; rw [op0D] at ho; cases ho
          · by_cases h3 : b < w.heap.size
            · rw [op0o b h3] at ho
              rw [o1o b h3]
              cases h4 : o b with
              | no => simp [h4] at ho
              | far => simp [h4] at ho
              | mine q =>
                simp only [h4] at ho
                split at ho
                · rename_i hm; exact ⟨by simp [hm], by omega⟩
                · cases ho
            · rw [hbp0 b (by omega)] at ho; cases ho
      · intro b hlt ho
        by_cases h1 : b = l
        · subst h1; rw [op0l] at ho; cases ho
        · by_cases h2 : b = w.heap.size
          · subst h2; rw [op0D] at ho; cases ho
          · have h3 : b < w.heap.size := by omega
            rw [op0o b h3] at ho
            rw [o1o b h3]
            cases h4 : o b with
            | no => rfl
            | far => simp [h4] at ho
            | mine q =>
              simp only [h4] at ho
              split at ho <;> cases ho
    have hs1 : Sats W1 o1 (H1 ++ [A (s0, none)]) := by
      refine sats_add' ?_ (by rw [hlen1]; exact hA0)
      intro j h hj
      rcases lentOut_get (is.map fun i => (i, 2)) H j h (by rw [hH1]; exact hj) with rfl | ⟨h1, h2⟩
      · trivial
      · have hj' : j ∉ is := fun hm => h2 (j, 2) (List.mem_map.2 ⟨j, hm, rfl⟩) rfl rfl
        exact h.keep (w := w) (o := o) (k := j) (by omega) (fun b hlt ho => ⟨by rw [o1o b hlt, ho]; simp [hj'], hO1 b hlt⟩) (fun b hlt ho => ⟨by rw [o1o b hlt, ho], hO1 b hlt⟩) (hs j h h1)
    -- the function's contract
    have hM := hit l A (fun σ x r hr => by
      rw [← hA, ← hrc]
      refine round_meets enc (fun x => VF.sets (ps.zip (enc x)) V) hz (fun x => by simp [hps]) (fun x => ?_) (hround l) σ x r hr
      have := agree_sets ps (enc x) V a.tmps hz hpn ha
      rw [← Array.foldl_toList]
      simpa using this)
    have hshX : ShowsX (H1 ++ [A (s0, none)]) ((H.length, 2) :: sh) (A (s0, none) :: Hc) := by
      refine showsX_lend H.length (by rw [← hlen1]; simp) ⟨hsh.1, fun j m mode x hj hx => ?_⟩
      obtain ⟨h', e1, e2⟩ := hsh.2 j m mode x hj hx
      exact ⟨h', by rw [List.getElem?_append_left (List.getElem?_eq_some_iff.1 e1).1]; exact e1, e2⟩
    have hop := t_callx (P := E.P) (V := fun _ => none) (d := none) (ty := 0) (pos := "") (af := #[]) (g := none) (fx := .const (.func (.func gf) #[] caps.toArray)) (xs := #[.const (.func (.yield l) #[] #[])]) (Ts := #[]) (vs := [.func (.yield l) #[] #[]]) (cs := caps)
      ((H.length, 2) :: sh) rfl hcall rfl hM hshX hok (.inl (by simpa using hst)) a.eval W1 o1 (fun x v hx => Agree.ev (V := fun _ => none) (a := a) (fun t v h => by cases h) hx) hb1 hs1
    unfold Does at hop
    rw [show (execOp a.eval ⟨none, .call ⟨.value (.const (.func (.func gf) #[] caps.toArray)), #[.const (.func (.yield l) #[] #[])], #[]⟩, 0, "", #[], none⟩).run E.P W1 = .ok (.enter gf (.func (.yield l) #[] #[] :: caps).toArray) W1 by
      simp [execOp, resolve, invoke, Deferred.ofValue, Act.eval, hcall]] at hop
    refine CallsIn.mono (F := FR none) (callsIn_wide.2 hop) ?_
    rintro e w2 ⟨v, rfl, H', o2, ⟨G, ⟨_, rfl⟩, rfl⟩, hb2, ht2, hs2⟩
    have hout : lentOut ((H.length, 2) :: sh) (H1 ++ [A (s0, none)]) = lentOut sh H1 ++ [HA.emp] := by
      rw [← lentOut_snoc]
      unfold lentOut
      rw [List.foldl_cons]
      congr 1
      simp [← hlen1]
    rw [hout] at hs2
    have hlen2 : (lentOut sh H1).length = H.length := (lentOut_length _ _).trans hlen1
    -- behind the function
    have key : ∀ (s : S) (g : G) (st : LoopState) (pe : Option Code) (op : Own), st ≠ .busy → Bnd w2 op → Sats w2 op (loopHA l (rc st pe) :: Hs s g) → (∀ b j, op b = .mine j → o2 b = .mine (H.length + 1) ∧ b < w2.heap.size) → (∀ b, b < w2.heap.size → op b = .no → o2 b = .no) →
        ∃ w4, (Instr.endLoop l).run E.P w2 = .ok pe w4 ∧ Rel E V (lentOut sh H1 ++ Gr ++ Hs s g) { a with defers := { target := .collected w.heap.size, args := #[] } :: a.defers } w4 := by
      intro s g st pe op hst' hbp hsp hmp hnp
      obtain ⟨hp1, hp2, hp3⟩ := hsp 0 _ rfl
      have hst'' : (rc st pe).state ≠ .busy := by rw [← hrc]; exact hst'
      have hpe : (rc st pe).pending = pe := by rw [← hrc]; rfl
      obtain ⟨ob, hend⟩ : ∃ ob, (Instr.endLoop l).run E.P w2 = .ok pe (w2.putObj l ob) := by
        have h := run_endLoop (P := E.P) hp3 hst''
        rw [hpe] at h
        exact ⟨_, h⟩
      refine ⟨_, hend, ?_⟩
      obtain ⟨w4, hw4⟩ : ∃ w4, w2.putObj l ob = w4 := ⟨_, rfl⟩
      rw [hw4]
      have hsz4 : w4.heap.size = w2.heap.size := by rw [← hw4]; exact World.putObj_size
      have hot4 : ∀ b, b ≠ l → w4.heap[b]? = w2.heap[b]? := fun b hb => by rw [← hw4]; exact World.putObj_heap_other hb
      have hl2 : o2 l = .mine (H.length + 1) := (hmp l 0 hp1).1
      obtain ⟨o4, ho4⟩ : ∃ o4 : Own, (fun b => match o2 b with
        | .mine j => if j = H.length + 1 then (match op b with | .mine (q + 1) => .mine (H.length + Gr.length + q) | _ => .far) else if j < H.length then .mine j else .mine (j - 2)
        | x => x) = o4 := ⟨_, rfl⟩
      have o4n : ∀ b, o2 b = .no → o4 b = .no := fun b h => by rw [← ho4]; simp [h]
      have o4f : ∀ b, o2 b = .far → o4 b = .far := fun b h => by rw [← ho4]; simp [h]
      have hnl : ∀ b j, o2 b = .mine j → j ≠ H.length + 1 → b ≠ l := by rintro b j h1 h2 rfl; rw [hl2] at h1; cases h1; exact h2 rfl
      have hnn : ∀ b, o2 b = .no → b ≠ l := by rintro b h1 rfl; rw [hl2] at h1; cases h1
      have hnf : ∀ b, o2 b = .far → b ≠ l := by rintro b h1 rfl; rw [hl2] at h1; cases h1
      have ht4 : Tr w2 o2 w4 o4 := ⟨by rw [← hw4]; rfl, by rw [← hw4]; rfl, by rw [← hw4]; rfl, by omega, fun b _ ho => ⟨o4n b ho, hot4 b (hnn b ho)⟩, fun b _ ho => ⟨o4f b ho, hot4 b (hnf b ho)⟩⟩
      have hall : Tr w o w4 o4 := (ht1.trans ht2).trans ht4
      obtain ⟨hf1, hh1⟩ := (ht2.trans ht4).far w.heap.size (by omega) o1D
      refine ⟨hz, (fun h => by rw [hE] at h; cases h), ha, o4, ?_, ⟨ht.tr.trans hall, ?_, ?_⟩, ?_⟩
      · intro b hb'; exact o4n b (hb2 b (by omega))
      · intro d hd'
        rcases List.mem_cons.1 hd' with rfl | hd'
        · exact ⟨_, rfl, ht.tr.size, by have := ht2.size; omega, hf1, hh1.trans hK1⟩
        · exact (ht.mks.trans hall).1 d hd'
      · refine List.nodup_cons.2 ⟨fun hm => ?_, ht.mks.2⟩
        obtain ⟨D', e', _, h2, _, _⟩ := ht.mks.1 _ hm
        simp at e'
        omega
      · intro j h hj
        rw [List.append_assoc, List.getElem?_append] at hj
        split at hj
        · rename_i hlt
          have hlt' : j < H.length := by omega
          refine h.keep (w := w2) (o := o2) (k := j) (by omega) (fun b _ ho => ?_) (fun b _ ho => ⟨o4n b ho, hot4 b (hnn b ho)⟩) (hs2 j h (by rw [List.append_assoc, List.getElem?_append_left hlt]; exact hj))
          have h1 : ¬ j = H.length + 1 := by omega
          exact ⟨by rw [← ho4]; simp [ho, h1, hlt'], hot4 b (hnl b j ho h1)⟩
        · rename_i hge
          rw [hlen2] at hge hj
          rw [List.getElem?_append] at hj
          split at hj
          · rename_i hlt
            refine h.keep (w := w2) (o := o2) (k := j + 2) (by omega) (fun b _ ho => ?_) (fun b _ ho => ⟨o4n b ho, hot4 b (hnn b ho)⟩) (hs2 (j + 2) h ?_)
            · have h1 : ¬ j + 2 = H.length + 1 := by omega
              have h2 : ¬ j + 2 < H.length := by omega
              refine ⟨?_, hot4 b (hnl b _ ho h1)⟩
              rw [← ho4]; simp only [ho, h1, h2, if_false]; simp
            · rw [List.getElem?_append_right (by simp [hlen2]; omega)]
              simp only [List.length_append, hlen2, List.length_singleton]
              rw [show j + 2 - (H.length + 1) = (j - H.length) + 1 by omega, List.getElem?_cons_succ]
              exact hj
          · rename_i hge2
            have hq : (Hs s g)[j - H.length - Gr.length]? = some h := hj
            refine h.keep (w := w2) (o := op) (k := j - H.length - Gr.length + 1) (by omega) (fun b _ ho => ?_) (fun b hlt ho => ?_) (hsp (j - H.length - Gr.length + 1) h (by simpa using hq))
            · have hbl : b ≠ l := by rintro rfl; rw [hp1] at ho; cases ho
              refine ⟨?_, hot4 b hbl⟩
              rw [← ho4]
              simp only [(hmp b _ ho).1, if_true, ho]
              congr 1
              omega
            · have h2 := hnp b hlt ho
              exact ⟨o4n b h2, hot4 b (hnn b h2)⟩
    have hlast : (lentOut sh H1 ++ [HA.emp] ++ (A r :: Gr))[H.length + 1]? = some (A r) := by
      rw [List.getElem?_append_right (by simp [hlen2])]
      simp [hlen2]
    have hAr := hs2 (H.length + 1) _ hlast
    rw [← hA] at hAr
    obtain ⟨s, i⟩ := r
    cases i with
    | none =>
      obtain ⟨g, op, c1, c2, c3, c4⟩ := hAr
      obtain ⟨w4, e1, e2⟩ := key s g .ready none op (by simp) c1 c2 c3 c4
      exact ⟨none, w4, e1, hgo rfl g _ _ e2⟩
    | some i =>
      obtain ⟨g, op, c1, c2, c3, c4⟩ := hAr
      obtain ⟨w4, e1, e2⟩ := key s g .done _ op (by simp) c1 c2 c3 c4
      obtain ⟨c, hc, hk⟩ := hjump i rfl
      rw [hc] at e1
      refine ⟨some c, w4, e1, ?_⟩
      have := hk g _ _ e2
      rw [hE] at this
      exact this
end Go.Abs
namespace Go.Abs
section
variable {V : VF} {H : List HA} {P : Program} {d : Option Nat} {ty : TypeId} {pos : String} {af : Array Edge} {g : Option (Nat × Bool)}
theorem y_nilBox {x : Operand} {b off : Nat} (hx : V.ev x = some (boxP b off)) : OpY P ⟨d, .nilCheck x, ty, pos, af, g⟩ V H (boxP b off) := by
  intro ρ w o hf _ _
  simp [execOp, hf x _ hx, boxP]
theorem y_nilElem {x : Operand} {v : Value} {i : Nat} (hx : V.ev x = some (elemP v i)) (hs : elemP v i ≠ .pointer none) (hp : ∃ a, elemP v i = .pointer a) : OpY P ⟨d, .nilCheck x, ty, pos, af, g⟩ V H (elemP v i) := by
  intro ρ w o hf _ _
  obtain ⟨a, ha⟩ := hp
  rw [ha] at hx hs ⊢
  cases a with
  | none => exact absurd rfl hs
  | some a => simp [execOp, hf x _ hx]
theorem y_nilFn {x : Operand} {f : FuncId} {cs : Array Value} (hx : V.ev x = some (.func (.func f) #[] cs)) : OpY P ⟨d, .nilCheck x, ty, pos, af, g⟩ V H (.func (.func f) #[] cs) := by
  intro ρ w o hf _ _
  simp [execOp, hf x _ hx]
theorem y_nilYield {x : Operand} {l : Nat} (hx : V.ev x = some (.func (.yield l) #[] #[])) : OpY P ⟨d, .nilCheck x, ty, pos, af, g⟩ V H (.func (.yield l) #[] #[]) := by
  intro ρ w o hf _ _
  simp [execOp, hf x _ hx]
end
end Go.Abs
namespace Go.Abs
/-- on behind a range over a function: off its end, or by a jump -/
def onJump {β : Type} (r : Option Nat) (go : Option β) (js : List (Option β)) : Option β :=
  match r with
  | none => go
  | some i => match js[i]? with
    | some x => x
    | none => none
theorem onJump_none {β : Type} {r : Option Nat} {go : Option β} {js : List (Option β)} {b : β} (hr : r = none) (h : onJump r go js = some b) : go = some b := by subst hr; exact h
theorem onJump_some {β : Type} {r : Option Nat} {go : Option β} {js : List (Option β)} {b : β} {i : Nat} (hr : r = some i) (h : onJump r go js = some b) : ∃ x, js[i]? = some x ∧ x = some b := by
  subst hr
  unfold onJump at h
  cases hx : js[i]? with
  | none => simp [hx] at h
  | some x => exact ⟨x, rfl, by simpa [hx] using h⟩
end Go.Abs
namespace Go.Abs
section
variable {E : Env} {k : List KI} {V : VF} {H : List HA} {ops : Array Oper} {op : Oper} {listed : Array Bool} {fuel : Nat} {Hs : List HA}
theorem any_ty {v : Value} {i : Nat} (hi : ops[i]? = some op) (hw : Wants E.n ops V op) (hd : inB E.n op.dst = true) (h : OpY E.P op V H v)
    (hk : Sub H Hs ∧ AnyL E ops (listed.setIfInBounds i true) fuel k (V.put op.dst v) H Hs) : AnyO E ops listed fuel k V H Hs i :=
  any_t hi hw hd h.t fun _ _ ⟨e1, e2⟩ => by rw [e1, e2]; exact hk
end
end Go.Abs
namespace Go.Abs
theorem sub_lo {α β : Type} (f : α → β) (l : List α) (a : Nat) : ((l.map f).take ((l.length : Int)).toNat).drop a = (l.drop a).map f := by
  rw [Int.toNat_natCast, List.take_of_length_le (by simp), List.map_drop]
theorem sub_hi {α β : Type} (f : α → β) (l : List α) (b : Nat) : ((l.map f).take b).drop ((0 : Int).toNat) = (l.take b).map f := by
  simp [List.map_take]
end Go.Abs
namespace Go.Abs
/-- Option.bind under a name of its own (the unifier opens Option.bind too early) -/
def obind {α β : Type} (x : Option α) (f : α → Option β) : Option β := x.bind f
theorem obind_some {α β : Type} {x : Option α} {f : α → Option β} {b : β} (h : obind x f = some b) : ∃ a, x = some a ∧ f a = some b := bind_some h
end Go.Abs
