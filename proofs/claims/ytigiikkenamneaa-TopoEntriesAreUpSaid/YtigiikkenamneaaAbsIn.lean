/-
  From a statement of the plain calculus about a region to the same within the fence that keeps nothing out, in an activation or in a round.
-/
import Derived.Test.YtigiikkenamneaaAbsOps
import Derived.Still
import Derived.OrdersHeld
import Derived.OrdersIn
namespace Go.Abs
variable {P : Program} {ops : Array Oper} {Q : Exit → Act → World → Prop} {r : Option Nat}

def isDefer : Op → Bool
  | .defer _ => true
  | _ => false
def noDef : Option Nat → Array Oper → Bool
  | none, _ => true
  | some _, ops => ops.toList.all fun o => !isDefer o.op
theorem noDef.semAt (h : noDef r ops = true) {o : Oper} {i : Nat} (ho : ops[i]? = some o) (ρ : Operand → Value) : o.semAt r ρ = execOp ρ o := by
  cases r with
  | none => rfl
  | some l =>
    refine Oper.semAt_eq _ ρ o fun c hc => ?_
    have hm : o ∈ ops.toList := Array.mem_toList_iff.2 (Array.mem_of_getElem? ho)
    have := List.all_eq_true.1 h o hm
    rw [hc] at this
    simp [isDefer] at this
theorem oper_in {o : Oper} {a : Act} {w : World} {K : Act → World → Prop} (hs : o.semAt r a.eval = execOp a.eval o) (h : o.wp P a w K Q) : o.wpIn (FR r) 0 P a w K Q := by
  unfold Oper.wp at h
  unfold Oper.wpIn
  refine ⟨fun _ _ => trivial, ?_⟩
  show o.uponIn (FR r) 0 P a K Q ((o.semAt r a.eval).run P w)
  rw [hs]
  generalize (execOp a.eval o).run P w = x at *
  cases x with
  | ok n w' =>
    cases n <;> simp only [Oper.upon, Oper.uponIn] at h ⊢ <;>
      first
        | exact h
        | exact ⟨(fun h => nomatch h), CallsIn.mono (F := FR r) (callsIn_wide.2 h) (fun e w'' he => by cases e <;> exact he)⟩
        | exact ⟨(fun h => nomatch h), fun c cs _ => let ⟨v, w', hr, hs⟩ := h c cs; ⟨v, w', hr, stepsIn_wide.2 hs⟩⟩
  | halt x w' => cases x <;> simp only [Oper.upon, Oper.uponIn] at h ⊢ <;> exact h
theorem wpOps_in (hl : ¬ LetsOut Q) (hd : noDef r ops = true) : ∀ (l : List Nat) (a : Act) (w : World), wpOps P ops Q l a w → wpOpsIn (FR r) 0 P ops Q l a w
  | [], _, _, h => h
  | i :: rest, a, w, h => by
    unfold wpOps at h
    unfold wpOpsIn
    cases ho : ops[i]? with
    | none => simp only [ho] at h ⊢; exact wpOps_in hl hd rest a w h
    | some o =>
      simp only [ho] at h ⊢
      split
      · rename_i hw
        rw [if_pos hw] at h
        rcases h with h | ⟨_, h⟩
        · exact Oper.wpIn_mono (fun a w => wpOps_in hl hd rest a w) (oper_in (noDef.semAt hd ho _) h)
        · exact absurd h hl
      · rename_i hw
        rw [if_neg hw] at h
        exact ⟨fun _ _ => trivial, wpOps_in hl hd rest _ w h⟩
theorem wpAny_in (hl : ¬ LetsOut Q) (hd : noDef r ops = true) {id : Nat} {a : Act} {w : World} (hm : P.follows .mixedOrders = true)
    (h : wpAny P .any ops Q ops.size (Array.replicate ops.size false) a w.drew) : (Code.region id ops true).wpIn (FR r) 0 P Q a w :=
  wpIn_region_draw fun t => by
    simp only [Region.schedule, hm, Bool.true_or, if_true]
    exact wpOps_in hl hd _ a _ (wpAny_sound ops.size t _ a _ h)
theorem wpStill_in (hl : ¬ LetsOut Q) (hd : noDef r ops = true) {id : Nat} {a : Act} {w : World} (hm : P.follows .mixedOrders = true) (hB : Region.lexB .any ops = true)
    (h : wpStill P ops w.drew (fun a' => Q .normal a' w.drew) ops.toList a) : (Code.region id ops true).wpIn (FR r) 0 P Q a w := by
  simp only [Region.lexB, Bool.and_eq_true] at hB
  refine wpAny_in hl hd hm (wpAny_of_still (Q := fun a' => Q .normal a' w.drew) (fun _ h => h) _ _ _ ?_)
  have := wpAnyS_lex (md := .any) hB.1 ops.toList 0 (Array.replicate ops.size false) a (by simp) (by simpa using hB.2) h
  simpa using this
theorem wpAnyH_in {S : World → Prop} (hl : ¬ LetsOut Q) (hd : noDef r ops = true) {id : Nat} {a : Act} {w : World} (hm : P.follows .mixedOrders = true)
    (h : wpAnyH P .any ops Q S ops.size (Array.replicate ops.size false) a w.drew) : (Code.region id ops true).wpIn (FR r) 0 P Q a w :=
  wpAny_in hl hd hm (wpAny_of_held _ _ _ _ h)

theorem Qof_out {E : Env} : ∀ (k : List KI), ¬ LetsOut (Qof E k)
  | [], ⟨a, w, h⟩ => E.no a w h
  | .code _ :: k, ⟨a, w, h⟩ => Qof_out k ⟨a, w, h⟩
  | .blk _ :: k, ⟨a, w, h⟩ => Qof_out k ⟨a, w, h⟩
  | .scope :: k, ⟨a, w, h⟩ => Qof_out k ⟨a, w, h⟩
  | .loop _ :: k, ⟨a, w, h⟩ => Qof_out k ⟨a, w, h⟩
end Go.Abs
