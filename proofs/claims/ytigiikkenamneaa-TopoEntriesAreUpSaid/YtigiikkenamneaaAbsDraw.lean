/-
  A statement whose order is open, and whose operations leave memory alone: one walk in the order of the text serves every order.
-/
import Derived.Test.YtigiikkenamneaaAbsAid
import Derived.Test.YtigiikkenamneaaAbsIn
import Derived.Still
namespace Go.Abs

variable {E : Env} {k : List KI} {V : VF} {H : List HA}

def StillL (E : Env) (ops : Array Oper) (l : List Oper) (k : List KI) (V : VF) (H : List HA) : Prop :=
  ∀ a w, Rel E V H a w → wpStill E.P ops w (fun a' => Qof E k .normal a' w) l a

theorem Rel.drew {a : Act} {w : World} (r : Rel E V H a w) : Rel E V H a w.drew := by
  obtain ⟨h1, h2, h3, o, hb, ht, hs⟩ := r
  exact ⟨h1, h2, h3, o, hb, ht.trans ⟨rfl, rfl, rfl, Nat.le_refl _, fun _ _ h => ⟨h, rfl⟩, fun _ _ h => ⟨h, rfl⟩⟩,
    fun j h hj => h.keep (w := w) (w' := w.drew) (Nat.le_refl _) (fun b _ hb => ⟨hb, rfl⟩) (fun b _ hb => ⟨hb, rfl⟩) (hs j h hj)⟩

theorem run_draw {id : Nat} {l : List Oper} (hm : E.P.follows .mixedOrders = true) (hB : Region.lexB .any l.toArray = true) (h : StillL E l.toArray l k V H) (hnd : noDef E.r l.toArray = true := by exact rfl) :
    Run E (.region id l.toArray true) k V H := fun a w r => wpStill_in (Qof_out k) hnd hm hB (by simpa using h a _ r.drew)

theorem still_y {ops : Array Oper} {op : Oper} {rest : List Oper} {v : Value} (hw : Wants E.n ops V op) (hd : inB E.n op.dst = true) (h : OpY E.P op V H v)
    (hk : StillL E ops rest k (V.put op.dst v) H) : StillL E ops (op :: rest) k V H := by
  intro a w r
  unfold wpStill
  rw [if_pos (hw.wanted r)]
  have hf := r.fits
  obtain ⟨h1, h2, h3, o, hb, ht, hs⟩ := r
  unfold Oper.still
  rw [h a.eval w o hf hb hs, Oper.stillUpon_value]
  exact hk _ w (Rel.put h1 h2 h3 hd hb ht (Tr.refl w o) hs)
theorem still_no {ops : Array Oper} {op : Oper} {rest : List Oper} (j : Nat) (b : Bool) (t : Nat) (hg : op.guard = some (j, b)) (hj : ((ops[j]?).bind (·.dst)) = some t)
    (hv : V t = some (.bool (!b))) (ht : Nat.blt t E.n = true) (hd : inB E.n op.dst = true) (hk : StillL E ops rest k (V.put op.dst undef) H) : StillL E ops (op :: rest) k V H := by
  intro a w r
  have h2 := getD_some r.1 ht (r.2.2.1 t _ hv)
  unfold wpStill
  rw [if_neg (by cases b <;> simp [Region.wanted, hg, yielded, hj, h2])]
  obtain ⟨h1, h2, h3, o, hb, ht, hs⟩ := r
  exact hk _ w (Rel.put h1 h2 h3 hd hb ht (Tr.refl w o) hs)
theorem still_nil {ops : Array Oper} (h : Goes E k V H) : StillL E ops [] k V H := fun a w r => h a w r
theorem still_split {ops : Array Oper} {l : List Oper} (t : Nat) (b : Bool) (hv : V t = some (.bool b)) (ht : b = true → StillL E ops l k (V.set t (.bool true)) H)
    (hf : b = false → StillL E ops l k (V.set t (.bool false)) H) : StillL E ops l k V H := by
  have same : ∀ c, b = c → ∀ a, Agree V a → Agree (V.set t (.bool c)) a := by
    intro c hc a ha u x hx
    rcases VF.set_eq hx with ⟨rfl, rfl⟩ | ⟨_, hx⟩
    · exact hc ▸ ha u _ hv
    · exact ha u x hx
  intro a w r
  cases hb : b with
  | true => exact ht hb a w ⟨r.1, r.2.1, same _ hb a r.2.2.1, r.2.2.2⟩
  | false => exact hf hb a w ⟨r.1, r.2.1, same _ hb a r.2.2.1, r.2.2.2⟩
/-- the ways through x meet again -/
theorem run_cut {x y : Code} (S : Type) (Vi : S → List (Nat × Value)) (Hi : S → List HA) (inv : S → Prop)
    (h1 : ∀ L : Act → World → Prop, (∀ s, inv s → ∀ a w, Rel E (VF.of (Vi s)) (Hi s) a w → L a w) → Run E x (.loop L :: k) V H)
    (h2 : ∀ s, inv s → Run E y k (VF.of (Vi s)) (Hi s)) : Run E (.seq x y) k V H := by
  intro a w r
  refine wpIn_seq (wpIn_mono (h1 (fun a w => ∃ s, inv s ∧ Rel E (VF.of (Vi s)) (Hi s) a w) (fun s hi a w hr => ⟨s, hi, hr⟩) a w r) ?_)
  intro e a w hq
  cases e with
  | normal =>
    obtain ⟨s, hi, hr⟩ := hq
    exact h2 s hi a w hr
  | exit id => exact hq
  | goto l => exact hq
  | ret => exact hq
  | panic ch => exact hq
  | outgrown => exact hq
theorem goes_cut {L : Act → World → Prop} {S : Type} {Vi : S → List (Nat × Value)} {Hi : S → List HA} {inv : S → Prop}
    (hL : ∀ s', inv s' → ∀ a w, Rel E (VF.of (Vi s')) (Hi s') a w → L a w) (s' : S) (is : List Nat)
    (hl : ∀ x ∈ Vi s', V x.1 = some x.2) (hn : is.Nodup) (hG : Picks is H (Hi s')) (hi : inv s') : Goes E (.loop L :: k) V H :=
  fun a w r => hL s' hi a w ((r.vle (VF.le_of _ hl)).pick hn hG)
end Go.Abs
