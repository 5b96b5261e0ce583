/-
  Texts that stand side by side: AbsPan, AbsRec, AbsLib, TryzShelf, HandZ, RecZ, AbsByte.
-/
import Derived.Test.YtbgpojdmdnkeaaaGreatDoorM1
import Derived.RecoverIn
import Derived.Lib.AtoiErrMem
import Derived.Lib.Join
import Derived.Lib.Split
import Derived.Lib.AtoiAll
import Derived.Lib.ItoaNum
import Derived.Lib.LaidTab
import Derived.Lib.IndexBytes
import Derived.Below
import Derived.Sort.Grow
import Derived.Deep.Draws
import Derived.Lib.ConvBytes
import Derived.Shelf.Strings.Builder1
import Derived.Shelf.Strings.Builder2
import Derived.Shelf.Strings.OnBuilder
import Derived.Shelf.Small.Strs
import Derived.Shelf.Utf8.RuneCount
import Derived.Shelf.Strconv.Atoi
import Derived.Shelf.Strconv.Itoa0
import Derived.Shelf.Strconv.Itoa1
import Derived.Shelf.LaysM
import Derived.Shelf.Strconv.Itoa2
import Derived.Shelf.Strconv.Itoa3
import Derived.Shelf.Strconv.AtoiErrFast
import Derived.Shelf.Strconv.ParseIntEmpty
import Derived.Shelf.Strconv.AtoiFail
import Derived.Shelf.Strconv.Clone
import Derived.Shelf.Strconv.SyntaxError
import Derived.Shelf.LaysC
import Derived.Shelf.Strconv.ToError
import Derived.Shelf.Strconv.Lower
import Derived.Shelf.Strconv.ParseUint10
import Derived.Shelf.Strconv.ParseUint10Empty
import Derived.Shelf.Strconv.ParseUint10Any
import Derived.Shelf.Strconv.ParseInt10
import Derived.Shelf.Strconv.AtoiLong
import Derived.Shelf.Strconv.AtoiInnerAll
import Derived.Shelf.Strconv.RangeError
import Derived.Shelf.Strconv.ToErrorRange
import Derived.Shelf.Strconv.AtoiAll
import Derived.Shelf.Strconv.ErrVarAll
import Derived.Shelf.Strings.Search1
import Derived.Shelf.Strings.Search2
import Derived.Shelf.Strings.Search3
import Derived.Shelf.Strings.Count
import Derived.Shelf.Strings.Shaped
import Derived.Shelf.Strings.Split
import Derived.Shelf.Strings.SplitShaped
import Derived.Shelf.Unicode.Decode
import Derived.Shelf.Strings.RuneCount
import Derived.Shelf.Strings.Explode
import Derived.Shelf.Unicode.DecodeSlow
import Derived.Shelf.Unicode.DecodeAny
import Derived.Test.YtbgpojdmdnkeaaaGreatDoorProg
import Derived.Test.YtbgpojdmdnkeaaaGreatDoorM0
namespace Go.Abs
variable {E : Env} {k : List KI} {V : VF} {H : List HA}
def DoesP (P : Program) (s : Sem Next) (w : World) (D Dp : Value → World → Prop) : Prop :=
  match s.run P w with
  | .ok (.enter f args) w' => Calls P f args w' (fun e w'' => (∃ v, e = .returned v ∧ D v w'') ∨ ∃ v, e = .panicked [{ v := v, recovered := false }] ∧ Dp v w'')
  | _ => False
def OpTP (P : Program) (op : Oper) (V : VF) (H : List HA) (post : Post) (pan : Value → Prop) (Hp : List HA) : Prop :=
  ∀ ρ w o, Fits V ρ → Bnd w o → Sats w o H →
    DoesP P (execOp ρ op) w (fun v w' => ∃ H' o', post v H' ∧ Bnd w' o' ∧ Tr w o w' o' ∧ Sats w' o' H') (fun v w' => pan v ∧ ∃ o', Bnd w' o' ∧ Tr w o w' o' ∧ Sats w' o' Hp)
theorem DoesP.semAt {P : Program} {op : Oper} {ρ : Operand → Value} {w : World} {D Dp : Value → World → Prop} (r : Option Nat) (h : DoesP P (execOp ρ op) w D Dp) : op.semAt r ρ = execOp ρ op := by
  refine Oper.semAt_eq r ρ op fun c hc => ?_
  unfold DoesP execOp at h
  rw [hc] at h
  simp only [Sem.run_bind] at h
  cases hx : (resolve ρ c op.type).run P w with
  | halt x w' => simp [hx, Result.andThen] at h
  | ok d w' => simp [hx, Result.andThen] at h
theorem Qof_pan {c : List PanicEntry} : ∀ (k : List KI) (a : Act) (w : World), E.B (.panic c) a w → Qof E k (.panic c) a w
  | [], _, _, q => q
  | .code _ :: k, a, w, q => Qof_pan k a w q
  | .scope :: k, a, w, q => Qof_pan k a w q
  | .loop _ :: k, a, w, q => Qof_pan k a w q
  | .blk _ :: k, a, w, q => Qof_pan k a w q
theorem ops_tp {ops : Array Oper} {op : Oper} {rest : List Oper} {post : Post} {pan : Value → Prop} {Hp : List HA} (hw : Wants E.n ops V op) (hd : inB E.n op.dst = true) (h : OpTP E.P op V H post pan Hp)
    (hk : ∀ v H', post v H' → Ops E ops rest k (V.put op.dst v) H') (hp : ∀ v, pan v → FinP E V Hp v) : Ops E ops (op :: rest) k V H := by
  intro a w r
  unfold wpListIn
  rw [if_pos (hw.wanted r)]
  have hf := r.fits
  obtain ⟨h1, h2, h3, o, hb, ht, hs⟩ := r
  have := h a.eval w o hf hb hs
  unfold Oper.wpIn
  refine ⟨fun _ _ => trivial, ?_⟩
  rw [DoesP.semAt _ this]
  unfold DoesP at this
  generalize (execOp a.eval op).run E.P w = x at *
  cases x with
  | halt x w' => simp at this
  | ok nx w' =>
    cases nx <;> simp only [Oper.uponIn] at this ⊢
    case enter f args =>
      refine ⟨(fun h => nomatch h), CallsIn.mono (F := FR E.r) (callsIn_wide.2 this) ?_⟩
      rintro e w'' (⟨v, rfl, H', o', hp', hb', ht', hs'⟩ | ⟨v, rfl, hv, o', hb', ht', hs'⟩)
      · exact hk v H' hp' _ _ (Rel.put h1 h2 h3 hd hb' ht ht' hs')
      · exact Qof_pan k a w'' (hp v hv a w'' (Rel.put (d := none) (v := undef) h1 h2 h3 rfl hb' ht ht' hs'))
theorem t_callp {P : Program} {d : Option Nat} {ty : TypeId} {pos : String} {af : Array Edge} {g : Option (Nat × Bool)} {fx : Operand} {f : FuncId} {xs : Array Operand} {Ts : Array TypeId} {vs cs : List Value} {Hc : List HA} {post : Post} {pan : Value → Prop}
    (sh : List (Nat × Nat)) (hfx : V.ev fx = some (.func (.func f) #[] cs.toArray)) (hcall : ∀ args w, (callFunc f args).run P w = .ok (.enter f args) w)
    (hxs : xs.toList.map V.ev = vs.map some) (hc : MeetsP P f (vs ++ cs) Hc post pan) (hsh : ShowsX H sh Hc) (hok : okX sh = true)
    (hst : (sh.all fun s => s.2 != 1) = true ∨ ∀ v G, post v G → ∀ g ∈ G, g.Strict) :
    OpTP P ⟨d, .call ⟨.value fx, xs, Ts⟩, ty, pos, af, g⟩ V H (fun v' H' => ∃ G, post v' G ∧ H' = lentOut sh H ++ G) pan (lentOut sh H) := by
  intro ρ w o hf hbd hs
  have hargs : (xs.map ρ) = vs.toArray := by
    apply Array.ext'
    rw [Array.toList_map]
    generalize xs.toList = l at hxs
    clear hc
    induction l generalizing vs with
    | nil => cases vs <;> simp_all
    | cons x r ih =>
      cases vs with
      | nil => simp at hxs
      | cons v vs =>
        simp only [List.map_cons, List.cons.injEq] at hxs ⊢
        exact ⟨hf _ _ hxs.1, ih hxs.2⟩
  have hrun : (execOp ρ ⟨d, .call ⟨.value fx, xs, Ts⟩, ty, pos, af, g⟩).run P w = .ok (.enter f (vs ++ cs).toArray) w := by
    simp [execOp, resolve, invoke, Deferred.ofValue, hf fx _ hfx, hargs, hcall]
  unfold DoesP
  rw [hrun]
  have hoc : ∀ b, o b = .no → ownX sh o b = .no := fun b hb => by simp [ownX, hb]
  have hall := List.all_eq_true.1 hok
  have hfar : ∀ b, o b = .far → ownX sh o b = .far := fun b hb => by simp [ownX, hb]
  -- who holds a block of the caller's own during the call
  have hmine : ∀ b m, o b = .mine m → (∃ j, sh.findIdx? (fun s => s.2 == 2 && s.1 == m) = some j ∧ ownX sh o b = .mine j) ∨
      (sh.findIdx? (fun s => s.2 == 2 && s.1 == m) = none ∧ ((ownX sh o b = .no ∧ (sh.any fun s => s.2 == 1 && s.1 == m) = true) ∨ ownX sh o b = .far)) := by
    intro b m hb
    simp only [ownX, hb]
    cases hfi : sh.findIdx? (fun s => s.2 == 2 && s.1 == m) with
    | some j => exact .inl ⟨j, rfl, rfl⟩
    | none =>
      right
      refine ⟨rfl, ?_⟩
      simp only []
      split
      · rename_i h; exact .inl ⟨rfl, h⟩
      · exact .inr rfl
  have core : ∀ (G : List HA) (w' : World) (o' : Own), ((sh.all fun s => s.2 != 1) = true ∨ ∀ g ∈ G, g.Strict) → Bnd w' o' → Tr w (ownX sh o) w' o' → Sats w' o' G → ∃ o2, Bnd w' o2 ∧ Tr w o w' o2 ∧ Sats w' o2 (lentOut sh H ++ G) := by
    intro G w' o' hst hb' ht hs'
    let o2 : Own := fun b => if b < w.heap.size then (match o b with
        | .mine m => if (sh.findIdx? (fun s => s.2 == 2 && s.1 == m)).isSome then (match o' b with | .mine j => .mine (H.length + j) | _ => .no) else .mine m
        | x => x) else match o' b with | .mine j => .mine (H.length + j) | _ => .no
    -- what is not lent is as it was
    have keepb : ∀ b, b < w.heap.size → (∀ m, o b = .mine m → sh.findIdx? (fun s => s.2 == 2 && s.1 == m) = none) → o2 b = o b ∧ w'.heap[b]? = w.heap[b]? := by
      intro b hlt hnl
      cases hob : o b with
      | no => exact ⟨by simp [o2, hlt, hob], (ht.no b hlt (hoc b hob)).2⟩
      | far => exact ⟨by simp [o2, hlt, hob], (ht.far b hlt (hfar b hob)).2⟩
      | mine m =>
        have hn := hnl m hob
        refine ⟨by simp [o2, hlt, hob, hn], ?_⟩
        rcases hmine b m hob with ⟨j, hj, _⟩ | ⟨_, h3 | h3⟩
        · rw [hn] at hj; cases hj
        · exact (ht.no b hlt h3.1).2
        · exact (ht.far b hlt h3).2
    have hG : ∀ j b, o' b = .mine j → o2 b = .mine (H.length + j) := by
      intro j b he
      by_cases hlt : b < w.heap.size
      · cases hob : o b with
        | no => have := (ht.no b hlt (hoc b hob)).1; rw [he] at this; cases this
        | far => have := (ht.far b hlt (hfar b hob)).1; rw [he] at this; cases this
        | mine m =>
          rcases hmine b m hob with ⟨j', hj', _⟩ | ⟨hn, h3 | h3⟩
          · simp [o2, hlt, hob, hj', he]
          · have := (ht.no b hlt h3.1).1; rw [he] at this; cases this
          · have := (ht.far b hlt h3).1; rw [he] at this; cases this
      · simp [o2, hlt, he]
    refine ⟨o2, ?_, ?_, ?_⟩
    · intro b hle
      have hsz := ht.size
      have : ¬ b < w.heap.size := by omega
      simp [o2, this, hb' b hle]
    · refine ⟨ht.os, ht.tape, ht.output, ht.size, fun b hlt hb => ?_, fun b hlt hb => ?_⟩
      · have := keepb b hlt (fun m hm => by rw [hb] at hm; cases hm)
        exact ⟨this.1.trans hb, this.2⟩
      · have := keepb b hlt (fun m hm => by rw [hb] at hm; cases hm)
        exact ⟨this.1.trans hb, this.2⟩
    · intro j h hj
      rw [List.getElem?_append] at hj
      split at hj
      · rename_i hlt0
        rcases lentOut_get sh H j h hj with rfl | ⟨hj1, hj2⟩
        · trivial
        · refine h.keep ht.size (fun b hlt hb => ?_) (fun b hlt hb => ?_) (hs j h hj1)
          · have := keepb b hlt (fun m hm => by
              rw [hb] at hm; injection hm with hm; subst hm
              rw [List.findIdx?_eq_none_iff]
              intro s hsm
              by_cases h2 : s.2 = 2
              · have := hj2 s hsm h2; simp [this]
              · simp [h2])
            exact ⟨this.1.trans hb, this.2⟩
          · have := keepb b hlt (fun m hm => by rw [hb] at hm; cases hm)
            exact ⟨this.1.trans hb, this.2⟩
      · rename_i hge
        rw [lentOut_length] at hge hj
        have hjj : H.length + (j - H.length) = j := by omega
        have hp' := hs' _ h hj
        rcases hst with hst | hst
        · refine h.keep (Nat.le_refl _) (fun b _ hb => ⟨by rw [hG _ b hb, hjj], rfl⟩) (fun b hlt hb => ⟨?_, rfl⟩) hp'
          by_cases hlt' : b < w.heap.size
          · cases hob : o b with
            | no => simp [o2, hlt', hob]
            | far => have := (ht.far b hlt' (hfar b hob)).1; rw [hb] at this; cases this
            | mine m =>
              rcases hmine b m hob with ⟨j', hj', _⟩ | ⟨hn, h3 | h3⟩
              · simp [o2, hlt', hob, hj', hb]
              · exfalso
                obtain ⟨s, hsm, hs2⟩ := List.any_eq_true.1 h3.2
                have := List.all_eq_true.1 hst s hsm
                simp at this hs2
                exact this hs2.1
              · have := (ht.far b hlt' h3).1; rw [hb] at this; cases this
          · simp [o2, hlt', hb]
        · have hgm : h ∈ G := List.mem_of_getElem? hj
          exact hst h hgm w' o' _ o2 j (fun b _ hb => by rw [hG _ b hb, hjj]) hp'
  refine (hc w (ownX sh o) (fun b hb => hoc b (hbd b hb)) ?_).mono ?_
  · intro j h hj
    have hlt : j < sh.length := by rw [hsh.1]; exact (List.getElem?_eq_some_iff.1 hj).1
    obtain ⟨⟨m, mode⟩, hsj⟩ : ∃ s, sh[j]? = some s := ⟨_, List.getElem?_eq_getElem hlt⟩
    obtain ⟨h', hm, hv⟩ := hsh.2 j m mode h hsj hj
    have hchk := hall j (by simp [hlt])
    rw [hsj] at hchk
    simp only at hchk
    by_cases h2 : mode = 2
    · subst h2
      simp only [if_true] at hv
      subst hv
      simp only [beq_self_eq_true, if_true, beq_iff_eq] at hchk
      exact h'.keep (Nat.le_refl _) (fun b _ hb => ⟨by simp only [ownX, hb, hchk], rfl⟩) (fun b _ hb => ⟨hoc b hb, rfl⟩) (hs _ h' hm)
    · rw [if_neg h2] at hv
      refine hv w o _ _ j (fun b _ => hoc b) (fun hl b _ hb => ?_) (hs _ h' hm)
      have h1 : mode = 1 := by simpa using hl
      subst h1
      simp only [show ((1 : Nat) == 2) = false from rfl, beq_self_eq_true, if_true, Bool.false_eq_true, if_false, Option.isNone_iff_eq_none] at hchk
      rcases hmine b m hb with ⟨j', hj', _⟩ | ⟨_, h3 | h3⟩
      · rw [hchk] at hj'; cases hj'
      · exact h3.1
      · exfalso
        simp only [ownX, hb] at h3
        rw [hchk] at h3
        simp only at h3
        rw [if_pos (List.any_eq_true.2 ⟨(m, 1), List.mem_of_getElem? hsj, by simp⟩)] at h3
        cases h3
  · rintro e w' (⟨v, G, o', rfl, hp, hb', ht, hs'⟩ | ⟨v, o', rfl, hp, hb', ht⟩)
    · obtain ⟨o2, q1, q2, q3⟩ := core G w' o' (hst.imp id fun h => h v G hp) hb' ht hs'
      exact .inl ⟨v, rfl, _, o2, ⟨G, hp, rfl⟩, q1, q2, q3⟩
    · obtain ⟨o2, q1, q2, q3⟩ := core [] w' o' (.inr fun g hg => by simp at hg) hb' ht (fun j h hj => by simp at hj)
      exact .inr ⟨v, rfl, hp, o2, q1, q2, by simpa using q3⟩
/-- the operation panics with a value -/
theorem ops_panic {ops : Array Oper} {op : Oper} {rest : List Oper} (v : Value) (hw : Wants E.n ops V op) (h : ∀ ρ w o, Fits V ρ → Sats w o H → op.semAt E.r ρ = execOp ρ op ∧ (execOp ρ op).run E.P w = .halt (.panic v) w) (hp : FinP E V H v) : Ops E ops (op :: rest) k V H := by
  intro a w r
  unfold wpListIn
  rw [if_pos (hw.wanted r)]
  have hf := r.fits
  obtain ⟨o, hb, ht, hs⟩ := r.2.2.2
  obtain ⟨e1, e2⟩ := h a.eval w o hf hs
  unfold Oper.wpIn
  refine ⟨fun _ _ => trivial, ?_⟩
  have e1' : op.semAt (FR E.r).round a.eval = execOp a.eval op := e1
  rw [e1', e2]
  exact Qof_pan k a w (hp a w r)
end Go.Abs
namespace Go.Abs
variable {E : Env} {k : List KI} {V : VF} {H : List HA}
/-- what a function gives that may panic -/
inductive Pn (R : Type) where
  | ret (r : R)
  | pan (e : Int)
def pbind {A R : Type} (x : Pn A) (f : Int → Option R) (g : A → Option R) : Option R := match x with
  | .ret a => g a
  | .pan e => f e
theorem pbind_ret {A R : Type} {a : A} {f : Int → Option R} {g : A → Option R} {r : R} (h : pbind (.ret a) f g = some r) : g a = some r := h
theorem pbind_pan {A R : Type} {e : Int} {f : Int → Option R} {g : A → Option R} {r : R} (h : pbind (.pan e) f g = some r) : f e = some r := h
theorem any_tp {ops : Array Oper} {op : Oper} {listed : Array Bool} {fuel : Nat} {Hs : List HA} {post : Post} {pan : Value → Prop} {Hp : List HA} {i : Nat} (hi : ops[i]? = some op) (hw : Wants E.n ops V op) (hd : inB E.n op.dst = true) (h : OpTP E.P op V H post pan Hp)
    (hk : ∀ v H', post v H' → Sub H' Hs ∧ AnyL E ops (listed.setIfInBounds i true) fuel k (V.put op.dst v) H' Hs) (hp : ∀ v, pan v → FinP E V Hp v) : AnyO E ops listed fuel k V H Hs i := by
  intro a w r
  unfold wpOpI
  simp only [hi]
  rw [if_pos (hw.wanted r)]
  have hf := r.fits
  obtain ⟨h1, h2, h3, o, hb, ht, hs⟩ := r
  have := h a.eval w o hf hb hs
  unfold DoesP at this
  generalize (execOp a.eval op).run E.P w = x at *
  cases x with
  | halt x w' => simp at this
  | ok nx w' =>
    cases nx <;> simp only [Oper.uponIn] at this ⊢
    case enter f args =>
      refine ⟨(fun h => nomatch h), CallsIn.mono (F := FR E.r) (callsIn_wide.2 this) ?_⟩
      rintro e w'' (⟨v, rfl, H', o', hp', hb', ht', hs'⟩ | ⟨v, rfl, hv, o', hb', ht', hs'⟩)
      · exact ⟨⟨o', hb', ht.tr.trans ht', (hk v H' hp').1.sats hs'⟩, (hk v H' hp').2 _ _ (Rel.put h1 h2 h3 hd hb' ht ht' hs')⟩
      · exact Qof_pan k a w'' (hp v hv a w'' (Rel.put (d := none) (v := undef) h1 h2 h3 rfl hb' ht ht' hs'))
end Go.Abs
namespace Go.Abs
variable {E : Env} {k : List KI} {V : VF} {H : List HA}
theorem mp_ret {P : Program} {f : FuncId} {args : List Value} {Hc : List HA} {R : Type} {q : R} {post : R → Value → List HA → Prop} {X : Int → Value → Prop}
    (h : MeetsP P f args Hc (fun v G => ∃ q', Pn.ret q = .ret q' ∧ post q' v G) (fun v => ∃ e, (Pn.ret q : Pn R) = .pan e ∧ X e v)) : Meets P f args Hc (post q) := fun w o hb hs =>
  (h w o hb hs).mono fun e w' h => by
    rcases h with ⟨v, G, o', h1, ⟨q', hq, h2⟩, h3⟩ | ⟨v, o', _, ⟨e, he, _⟩, _⟩
    · cases hq; exact ⟨v, G, o', h1, h2, h3⟩
    · cases he
theorem op_panic {P : Program} {r : Option Nat} {d : Option Nat} {ty : TypeId} {pos : String} {af : Array Edge} {g : Option (Nat × Bool)} {x : Operand} {T : TypeId} {u : Value} (hx : V.ev x = some (.iface T u)) :
    ∀ ρ w o, Fits V ρ → Sats w o H → Oper.semAt r ρ ⟨d, .panic x, ty, pos, af, g⟩ = execOp ρ ⟨d, .panic x, ty, pos, af, g⟩ ∧ (execOp ρ ⟨d, .panic x, ty, pos, af, g⟩).run P w = .halt (.panic (.iface T u)) w := by
  intro ρ w o hf _
  refine ⟨Oper.semAt_eq _ _ _ (fun c hc => (by cases hc)), ?_⟩
  simp [execOp, hf x _ hx, Instr.panic]
end Go.Abs
namespace Go.Abs
variable {E : Env} {k : List KI} {V : VF} {H : List HA}

def bodyQ (P : Program) (fn : Func) (w0 : World) (o0 : Own) (post : Post) : Exit → Act → World → Prop
  | .outgrown, _, _ => False
  | e, a, w => bodyPostM (FR none) 0 P fn (Ends w0 o0 post) e a w
def EnvQ (P : Program) (n : Nat) (w0 : World) (o0 : Own) (fn : Func) (post : Post) : Env :=
  { P := P, n := n, w0 := w0, o0 := o0, r := none, nd := true, B := bodyQ P fn w0 o0 post, blind := false, np := fun h => (by cases h), no := fun _ _ h => h }
theorem fnq_of_run {P : Program} {f : FuncId} {fn : Func} {c : Code} {args : List Value} {H : List HA} {post : Post} {n : Nat}
    (hf : P.funcs[f]? = some fn) (hb : fn.body = some c) (hm : fn.ntmps = n) (hn : Nat.ble args.length n = true)
    (h : ∀ w0 o0, Run (EnvQ P n w0 o0 fn post) c [] (VF.args args 0) H) : Meets P f args H post := by
  intro w o hbd hs
  refine callsIn_wide.1 (callsIn_of_wp_marks (F := FR none) (n := 0) hf hb trivial ?_)
  refine wpIn_mono (h w o _ _ ⟨?_, (fun _ => rfl), ?_, o, hbd, TrD.of (TrM.refl w o) rfl, hs⟩) (fun e _ _ h => ?_)
  · have := Nat.le_of_ble_eq_true hn
    simp [hm, EnvQ]; omega
  · intro t v hv
    obtain ⟨_, h2⟩ := VF.args_get args 0 t v hv
    exact getD_append_left v (by simpa using h2)
  · cases e with
    | outgrown => exact h.elim
    | normal => exact h
    | ret => exact h
    | panic _ => exact h
    | exit _ => exact h
    | goto _ => exact h
def Env.push (E : Env) (D : Deferred) : Env := { E with db := D :: E.db, nd := false }
theorem Qof_push {D : Deferred} : ∀ (k : List KI), Qof (E.push D) k = Qof E k
  | [] => rfl
  | .code y :: k => by simp only [Qof]; rw [Qof_push k]; rfl
  | .blk id :: k => by simp only [Qof]; rw [Qof_push k]
  | .scope :: k => by simp only [Qof]; rw [Qof_push k]
  | .loop L :: k => by simp only [Qof]; rw [Qof_push k]
/-- 'defer' of a function value -/
theorem ops_defer {ops : Array Oper} {rest : List Oper} {ty : TypeId} {pos : String} {af : Array Edge} {g : Option (Nat × Bool)} {x : Operand} {f : FuncId} {cs : List Value} (hw : Wants E.n ops V ⟨none, .defer ⟨.value x, #[], #[]⟩, ty, pos, af, g⟩)
    (hx : V.ev x = some (.func (.func f) #[] cs.toArray)) (h0 : E.db = []) (hr : E.nd = true) (hr0 : E.r = none) (hk : Ops (E.push { target := .fn (.func f) cs.toArray, args := #[] }) ops rest k V H) :
    Ops E ops (⟨none, .defer ⟨.value x, #[], #[]⟩, ty, pos, af, g⟩ :: rest) k V H := by
  intro a w r
  unfold wpListIn
  rw [if_pos (hw.wanted r)]
  have hf := r.fits
  obtain ⟨h1, h2, h3, o, hb, ht, hs⟩ := r
  have hrun : (execOp a.eval ⟨none, .defer ⟨.value x, #[], #[]⟩, ty, pos, af, g⟩).run E.P w = .ok (.defer { target := .fn (.func f) cs.toArray, args := #[] }) w := by
    simp [execOp, resolve, Deferred.ofValue, hf x _ hx]
  unfold Oper.wpIn
  refine ⟨fun _ _ => trivial, ?_⟩
  have hsem : Oper.semAt (FR E.r).round a.eval ⟨none, .defer ⟨.value x, #[], #[]⟩, ty, pos, af, g⟩ = execOp a.eval ⟨none, .defer ⟨.value x, #[], #[]⟩, ty, pos, af, g⟩ := by rw [hr0]; rfl
  rw [hsem, hrun, Oper.uponIn_defer]
  have := hk { a with defers := { target := .fn (.func f) cs.toArray, args := #[] } :: a.defers } w ⟨h1, fun h => (by cases h), h3, o, hb, ?_, hs⟩
  · rw [Qof_push] at this
    exact this
  · have hd := h2 hr
    rw [hd] at ht ⊢
    exact ⟨[], by simp [Env.push, h0], ht.tr, Marked.nil _ _ _⟩

/-- the marks are taken away, down to what the function itself has deferred -/
theorem leaves_marksD {P : Program} {w0 : World} {o0 : Own} {fn : Func} {tmps : Array Value} {R : Ending → World → Prop} {u : FrameMode} {H : List HA} {ds0 : List Deferred} (hu : u ≠ .run)
    (h : ∀ w' o, Bnd w' o → Tr w0 o0 w' o → Sats w' o H → LeavesInM (FR none) 0 P fn tmps R ds0 u w') : ∀ (ds : List Deferred) (w : World) (o : Own), Bnd w o → TrM w0 o0 ds w o → Sats w o H → LeavesInM (FR none) 0 P fn tmps R (ds ++ ds0) u w
  | [], w, o, hb, ht, hs => h w o hb ht.tr hs
  | d :: ds, w, o, hb, ht, hs => by
    obtain ⟨D, e, h1, h2, h3, h4⟩ := ht.mks.1 d (List.mem_cons_self ..)
    have hnd := List.nodup_cons.1 ht.mks.2
    refine ⟨hu, .inl ⟨D, w.putObj D (.deferred none), by rw [e], run_takeDeferred h4, ?_⟩⟩
    have hsz : (w.putObj D (.deferred none)).heap.size = w.heap.size := World.putObj_size
    have hot : ∀ b, o b ≠ .far → (w.putObj D (.deferred none)).heap[b]? = w.heap[b]? := fun b hb => World.putObj_heap_other (by rintro rfl; exact hb h3)
    refine leaves_marksD hu h ds _ o ?_ ?_ ?_
    · intro b hb'; exact hb b (by rwa [hsz] at hb')
    · refine ⟨⟨ht.tr.os, ht.tr.tape, ht.tr.output, by rw [hsz]; exact ht.tr.size, fun b hb' ho => ?_, fun b hb' ho => ?_⟩, fun d' hd' => ?_, hnd.2⟩
      · obtain ⟨f1, f2⟩ := ht.tr.no b hb' ho
        exact ⟨f1, (hot b (by rw [f1]; simp)).trans f2⟩
      · obtain ⟨f1, f2⟩ := ht.tr.far b hb' ho
        exact ⟨f1, (World.putObj_heap_other (by omega)).trans f2⟩
      · obtain ⟨D', e', g1, g2, g3, g4⟩ := ht.mks.1 d' (List.mem_cons_of_mem _ hd')
        refine ⟨D', e', g1, by rw [hsz]; exact g2, g3, (World.putObj_heap_other ?_).trans g4⟩
        rintro rfl
        exact hnd.1 (by rw [e, ← e']; exact hd')
    · intro j g hj
      exact g.keep (Nat.le_of_eq hsz.symm) (fun b _ hb' => ⟨hb', hot b (by rw [hb']; simp)⟩) (fun b _ hb' => ⟨hb', hot b (by rw [hb']; simp)⟩) (hs j g hj)
theorem run_invoke {P : Program} {f : FuncId} {cs : Array Value} (hcall : ∀ args w, (callFunc f args).run P w = .ok (.enter f args) w) (w : World) : (invoke (.fn (.func f) cs) #[]).run P w = .ok (.enter f cs) w := by
  simp [invoke, hcall]
/-- a deferred call, in the mode u of who leaves: what it makes of the mode and of memory -/
def RecD (P : Program) (f : FuncId) (cs : List Value) (u u' : FrameMode) (H H' : List HA) : Prop := ∀ w o, Bnd w o → Sats w o H →
  CallsDIn (FR none) 0 P f cs.toArray u w (fun e u2 w' => e = .returned (.tuple #[]) ∧ u2 = u' ∧ ∃ o', Bnd w' o' ∧ Tr w o w' o' ∧ Sats w' o' H')
section
variable {P : Program} {n : Nat} {w0 : World} {o0 : Own} {fn : Func} {post : Post} {f : FuncId} {cs : List Value}
/-- at the end: what was deferred does nothing -/
theorem fin_rec (hcall : ∀ args w, (callFunc f args).run P w = .ok (.enter f args) w) (hc : RecD P f cs .returning .returning H H) (h : Fin (EnvQ P n w0 o0 fn post) V H) : Fin ((EnvQ P n w0 o0 fn post).push { target := .fn (.func f) cs.toArray, args := #[] }) V H := by
  rintro a w ⟨h1, _, h3, o, hb, ⟨ms, hds, ht⟩, hs⟩
  show LeavesInM (FR none) 0 P fn a.tmps (Ends w0 o0 post) a.defers .returning w
  have hds' : a.defers = ms ++ [{ target := .fn (.func f) cs.toArray, args := #[] }] := by simpa [Env.push, EnvQ] using hds
  rw [hds']
  refine leaves_marksD (by simp) (fun w' o' hb' ht' hs' => ?_) ms w o hb ht hs
  refine ⟨by simp, .inr ⟨by simp [FR], _, _, _, _, rfl, run_invoke hcall w', fun _ _ => trivial, (hc w' o' hb' hs').mono ?_⟩⟩
  rintro e u w'' ⟨rfl, rfl, o'', hb'', ht'', hs''⟩
  exact h { a with defers := [] } w'' ⟨h1, fun _ => rfl, h3, o'', hb'', ⟨[], rfl, ht'.trans ht'', Marked.nil _ _ _⟩, hs''⟩
/-- at a panic: what was deferred recovers -/
theorem finP_rec {v : Value} {H' : List HA} (hcall : ∀ args w, (callFunc f args).run P w = .ok (.enter f args) w) (hc : RecD P f cs (.panicking [{ v := v, recovered := false }]) (.panicking [{ v := v, recovered := true }]) H H') (h : Fin (EnvQ P n w0 o0 fn post) V H') : FinP ((EnvQ P n w0 o0 fn post).push { target := .fn (.func f) cs.toArray, args := #[] }) V H v := by
  rintro a w ⟨h1, _, h3, o, hb, ⟨ms, hds, ht⟩, hs⟩
  show LeavesInM (FR none) 0 P fn a.tmps (Ends w0 o0 post) a.defers (.panicking [{ v := v, recovered := false }]) w
  have hds' : a.defers = ms ++ [{ target := .fn (.func f) cs.toArray, args := #[] }] := by simpa [Env.push, EnvQ] using hds
  rw [hds']
  refine leaves_marksD (by simp) (fun w' o' hb' ht' hs' => ?_) ms w o hb ht hs
  refine ⟨by simp, .inr ⟨by simp [FR], _, _, _, _, rfl, run_invoke hcall w', fun _ _ => trivial, (hc w' o' hb' hs').mono ?_⟩⟩
  rintro e u w'' ⟨rfl, rfl, o'', hb'', ht'', hs''⟩
  exact h { a with defers := [] } w'' ⟨h1, fun _ => rfl, h3, o'', hb'', ⟨[], rfl, ht'.trans ht'', Marked.nil _ _ _⟩, hs''⟩
theorem Rel.leavesQ {a : Act} {w : World} (r : Rel (EnvQ P n w0 o0 fn post) V H a w)
    (h : ∀ w' o, Bnd w' o → Tr w0 o0 w' o → Sats w' o H → ∃ v, (results fn a.tmps).run P w' = .ok v w' ∧ Ends w0 o0 post (.returned v) w') : (EnvQ P n w0 o0 fn post).B .ret a w := by
  obtain ⟨_, h2, _, o, hb, ⟨ms, hds, ht⟩, hs⟩ := r
  have hd := h2 rfl
  show LeavesInM (FR none) 0 P fn a.tmps (Ends w0 o0 post) a.defers .returning w
  rw [hd]
  exact h w o hb ht.tr hs
theorem fin_resQ (rs : List ResultVar) (vs : List Value) (is : List Nat) (G : List HA)
    (hr : fn.results = rs.toArray) (hl : rs.length = vs.length) (hv : ∀ (i : Nat) (r : ResultVar) (v : Value), rs[i]? = some r → vs[i]? = some v → ResIs P V H r v) (hn : is.Nodup) (hG : Picks is H G)
    (hp : post (tup vs) G) : Fin (EnvQ P n w0 o0 fn post) V H := by
  intro a w r
  exact r.leavesQ fun w' o hb ht hs => ⟨_, results_run r.2.2.1 hs rs vs hr hl hv, _, G, reown is o, rfl, hp, bnd_reown is hb, tr_reown' is ht, sats_pick hn hG.get hs⟩
end

/-! the body of a deferred call -/
def EnvS (P : Program) (n : Nat) (w0 : World) (o0 : Own) : Env :=
  { P := P, n := n, w0 := w0, o0 := o0, r := none, nd := true, B := fun _ _ _ => False, np := fun _ _ _ _ _ _ h => h, no := fun _ _ h => h }
def OpsS (E : Env) (ops : Array Oper) (l : List Nat) (Q : Exit → Act → List Frame → World → Prop) (cs : List Frame) (V : VF) (H : List HA) : Prop :=
  ∀ a w, Rel E V H a w → wpOpsSIn (FR none) 0 E.P ops Q l a cs w
def RunS (E : Env) (c : Code) (Q : Exit → Act → List Frame → World → Prop) (cs : List Frame) (V : VF) (H : List HA) : Prop :=
  ∀ a w, Rel E V H a w → c.wpSIn (FR none) 0 E.P Q a cs w
section
variable {Q : Exit → Act → List Frame → World → Prop} {cs : List Frame} {ops : Array Oper} {rest : List Nat}
theorem runS_seq {x y : Code} (h : RunS E x (Exit.thenS (y.wpSIn (FR none) 0 E.P Q) Q) cs V H) : RunS E (.seq x y) Q cs V H := fun a w r => wpSIn_seq (h a w r)
theorem runS_region {id : Nat} (l : List Nat) (hl : List.range ops.size = l) (h : OpsS E ops l Q cs V H) : RunS E (.region id ops false) Q cs V H := fun a w r => wpSIn_region (by rw [hl]; exact h a w r)
theorem opsS_next {y : Code} (h : RunS E y Q cs V H) : ∀ a w, Rel E V H a w → Exit.thenS (y.wpSIn (FR none) 0 E.P Q) Q .normal a cs w := h
theorem runS_cond {c : Operand} {x y : Code} (t : Bool) (hc : V.ev c = some (.bool t)) (h : RunS E (if t then x else y) Q cs V H) : RunS E (.cond c x y) Q cs V H :=
  fun a w r => wpSIn_cond (r.2.2.1.ev hc) (h a w r)
theorem runS_cond_t {c : Operand} {x y : Code} (hc : V.ev c = some (.bool true)) (h : RunS E x Q cs V H) : RunS E (.cond c x y) Q cs V H := runS_cond true hc h
theorem runS_cond_f {c : Operand} {x y : Code} (hc : V.ev c = some (.bool false)) (h : RunS E y Q cs V H) : RunS E (.cond c x y) Q cs V H := runS_cond false hc h
theorem runS_skip (h : ∀ a w, Rel E V H a w → Q .normal a cs w) : RunS E .skip Q cs V H := fun a w r => wpSIn_of_wpIn rfl (wpIn_skip (h a w r))
theorem opsS_nil (h : ∀ a w, Rel E V H a w → Q .normal a cs w) : OpsS E ops [] Q cs V H := fun a w r => h a w r
theorem opsS_y {i : Nat} {op : Oper} {v : Value} (hi : ops[i]? = some op) (hg : op.guard = none) (hd : inB E.n op.dst = true) (h : OpY E.P op V H v) (hk : OpsS E ops rest Q cs (V.put op.dst v) H) : OpsS E ops (i :: rest) Q cs V H := by
  intro a w r
  simp only [wpOpsSIn, hi]
  have hf := r.fits
  obtain ⟨h1, h2, h3, o, hb, ht, hs⟩ := r
  refine ⟨fun _ _ => trivial, ?_⟩
  rw [if_pos (by simp [Region.wanted, hg]), h a.eval w o hf hb hs]
  exact hk _ w (Rel.put h1 h2 h3 hd hb ht (Tr.refl w o) hs)
theorem opsS_recover {i : Nat} {d : Option Nat} {ty : TypeId} {pos : String} {af : Array Edge} {v : Value} {cs' : List Frame} (hi : ops[i]? = some ⟨d, .call ⟨.builtin .recover, #[], #[]⟩, ty, pos, af, none⟩) (hd : inB E.n d = true)
    (hr : (match recoverD cs with | some (v, cs') => (v, cs') | none => (Value.nilIface, cs)) = (v, cs')) (hk : OpsS E ops rest Q cs' (V.put d v) H) : OpsS E ops (i :: rest) Q cs V H := by
  intro a w r
  simp only [wpOpsSIn, hi]
  obtain ⟨h1, h2, h3, o, hb, ht, hs⟩ := r
  refine ⟨fun _ _ => trivial, ?_⟩
  rw [if_pos (by simp [Region.wanted])]
  have hrun : (execOp a.eval ⟨d, .call ⟨.builtin .recover, #[], #[]⟩, ty, pos, af, none⟩).run E.P w = .ok .recover w := by
    simp [execOp, resolve, invoke, builtin]
  rw [hrun]
  have := hk _ w (Rel.put (d := d) (v := v) h1 h2 h3 hd hb ht (Tr.refl w o) hs)
  cases hc : recoverD cs with
  | none => rw [hc] at hr; simp at hr; obtain ⟨rfl, rfl⟩ := hr; exact this
  | some p => obtain ⟨v1, c1⟩ := p; rw [hc] at hr; simp at hr; obtain ⟨rfl, rfl⟩ := hr; exact this
end
section
variable {P : Program} {f : FuncId} {fn : Func} {c : Code} {cs : List Value} {n : Nat}
/-- the contract of a deferred call -/
theorem recD_of {u u' : FrameMode} {H H' : List HA} (hf : P.funcs[f]? = some fn) (hb : fn.body = some c) (hm : fn.ntmps = n) (hn : Nat.ble cs.length n = true)
    (h : ∀ (w0 : World) (o0 : Own) (c0 : Frame) (cf : List Frame), c0.mode = u →
      RunS (EnvS P n w0 o0) c (bodyPostS P fn c0 cf (fun e u2 w' => e = .returned (.tuple #[]) ∧ u2 = u' ∧ ∃ o', Bnd w' o' ∧ Tr w0 o0 w' o' ∧ Sats w' o' H')) (c0 :: cf) (VF.args cs 0) H) : RecD P f cs u u' H H' := by
  intro w o hbd hs
  refine callsDIn_of_wpSIn hf hb trivial fun c0 cf hu => ?_
  refine h w o c0 cf hu _ _ ⟨?_, (fun _ => rfl), ?_, o, hbd, TrD.of (TrM.refl w o) rfl, hs⟩
  · have := Nat.le_of_ble_eq_true hn
    simp [hm, EnvS]; omega
  · intro t v hv
    obtain ⟨_, h2⟩ := VF.args_get cs 0 t v hv
    exact getD_append_left v (by simpa using h2)
theorem leafS {w0 : World} {o0 : Own} {u' : FrameMode} {c0 : Frame} {cf cs' : List Frame} {H' : List HA} {V : VF} (hr : fn.results = #[]) (hcs : cs' = { c0 with mode := u' } :: cf) :
    ∀ a w, Rel (EnvS P n w0 o0) V H' a w → bodyPostS P fn c0 cf (fun e u2 w' => e = .returned (.tuple #[]) ∧ u2 = u' ∧ ∃ o', Bnd w' o' ∧ Tr w0 o0 w' o' ∧ Sats w' o' H') .normal a cs' w := by
  rintro a w ⟨h1, h2, h3, o, hb, ht, hs⟩
  refine ⟨h2 rfl, u', hcs, _, ?_, rfl, rfl, o, hb, ht.tr, hs⟩
  unfold results
  rw [hr]
  simp
theorem mode_same {c0 : Frame} {u : FrameMode} (h : c0.mode = u) : c0 = { c0 with mode := u } := by
  subst h; rfl
end
end Go.Abs
namespace Go.Abs
variable {E : Env} {k : List KI} {V : VF} {H : List HA}
/-- the same, where nothing may go wrong -/
def Env.calm (E : Env) : Env := { E with B := fun _ _ _ => False, blind := true, np := fun _ _ _ _ _ _ h => h, no := fun _ _ h => h }
theorem run_calm {c : Code} (h : ∀ L : Act → World → Prop, (∀ V' H', Goes E k V' H' → ∀ a w, Rel E V' H' a w → L a w) → Run E.calm c [.loop L] V H) : Run E c k V H := by
  intro a w r
  refine wpIn_mono (h (fun a w => Qof E k .normal a w) (fun V' H' hg a w r => hg a w r) a w r) ?_
  intro e a w hq
  cases e with
  | normal => exact hq
  | exit id => exact hq.elim
  | goto l => exact hq.elim
  | ret => exact hq.elim
  | panic ch => exact hq.elim
  | outgrown => exact hq.elim
theorem goes_calm {L : Act → World → Prop} (hL : ∀ V' H', Goes E k V' H' → ∀ a w, Rel E V' H' a w → L a w) (h : Goes E k V H) : Goes E.calm [.loop L] V H := fun a w r => hL V H h a w r
theorem runS_of {Q : Exit → Act → List Frame → World → Prop} {cs : List Frame} {c : Code} (h : ∀ L : Act → World → Prop, (∀ V' H', (∀ a w, Rel E V' H' a w → Q .normal a cs w) → ∀ a w, Rel E V' H' a w → L a w) → Run E.calm c [.loop L] V H) (hr : E.r = none := by exact rfl) : RunS E c Q cs V H := by
  intro a w r
  refine wpSIn_of_wpIn rfl ?_
  have := h (fun a w => Q .normal a cs w) (fun V' H' hg a w r => hg a w r) a w r
  rw [show (FR E.calm.r) = FR none from congrArg FR hr] at this
  refine wpIn_mono this ?_
  intro e a w hq
  cases e with
  | normal => exact hq
  | exit id => exact hq.elim
  | goto l => exact hq.elim
  | ret => exact hq.elim
  | panic ch => exact hq.elim
  | outgrown => exact hq.elim
end Go.Abs
namespace Go.Abs
open Go.RowKit Go.Sort
/-! plain functions -/
def decF : Nat → Nat → List UInt8
  | 0, _ => []
  | k + 1, u => if u < 10 then [UInt8.ofNat (48 + u)] else decF k (u / 10) ++ [UInt8.ofNat (48 + u % 10)]
theorem decF_eq : ∀ k u, u < 10 ^ (k + 1) → decF (k + 1) u = Lib.decDigits u
  | 0, u, h => by
    have h' : u < 10 := by simpa using h
    rw [decF, if_pos h', Lib.decDigits, dif_pos h']
  | k + 1, u, h => by
    rw [decF, Lib.decDigits]
    by_cases h' : u < 10
    · rw [if_pos h', dif_pos h']
    · rw [if_neg h', dif_neg h', decF_eq k (u / 10) (by rw [Nat.pow_succ] at h; omega)]
def itoaP (n : Int) : List UInt8 := if n < 0 then 45 :: decF 20 n.natAbs else decF 20 n.toNat
theorem itoaP_eq {n : Int} (h0 : -9223372036854775808 ≤ n) (h1 : n ≤ 9223372036854775807) : Lib.itoa n = itoaP n := by
  unfold Lib.itoa itoaP
  split
  · rw [decF_eq 19 _ (Nat.lt_trans (show n.natAbs < 9223372036854775809 by omega) (by decide))]
  · rw [decF_eq 19 _ (Nat.lt_trans (show n.toNat < 9223372036854775808 by omega) (by decide))]
def idxN (c : UInt8) : List UInt8 → Option Nat
  | [] => none
  | b :: l => if b == c then some 0 else (idxN c l).map (· + 1)
def idxP (l : List UInt8) (c : UInt8) : Int := match idxN c l with | some n => n | none => -1
theorem idxP_eq (c : UInt8) : ∀ l, Lib.indexByte l c = idxP l c
  | [] => rfl
  | b :: l => by
    unfold Lib.indexByte idxP idxN
    rw [idxP_eq c l]
    unfold idxP
    by_cases h : (b == c) = true
    · simp [h]
    · simp only [h]
      cases hn : idxN c l with
      | none => simp
      | some n => simp [show ¬ ((n : Int) = -1) by omega]
def splitP (c : UInt8) : List UInt8 → List (List UInt8)
  | [] => [[]]
  | b :: r => if b == c then [] :: splitP c r else match splitP c r with
    | [] => [[b]]
    | x :: xs => (b :: x) :: xs
theorem splitP_miss (c : UInt8) : ∀ l, idxN c l = none → splitP c l = [l]
  | [], _ => rfl
  | b :: r, h => by
    unfold idxN at h
    split at h
    · cases h
    · rename_i hb
      unfold splitP
      rw [if_neg hb, splitP_miss c r (by simpa using h)]
theorem splitP_hit (c : UInt8) : ∀ l i, idxN c l = some i → splitP c l = l.take i :: splitP c (l.drop (i + 1)) ∧ i < l.length
  | [], _, h => by simp [idxN] at h
  | b :: r, i, h => by
    unfold idxN at h
    split at h
    · rename_i hb
      obtain rfl : 0 = i := by simpa using h
      refine ⟨?_, by simp⟩
      conv => lhs; unfold splitP
      rw [if_pos hb]; simp
    · rename_i hb
      cases hn : idxN c r with
      | none => rw [hn] at h; simp at h
      | some j =>
        rw [hn] at h
        obtain rfl : j + 1 = i := by simpa using h
        obtain ⟨e, hl⟩ := splitP_hit c r j hn
        refine ⟨?_, by simpa using hl⟩
        conv => lhs; unfold splitP
        rw [if_neg hb, e]; simp
theorem splitB_eq (c : UInt8) : ∀ (n : Nat) (l : List UInt8), l.length ≤ n → Lib.splitB (bs [c]) 0 (Lib.countB (bs l) (bs [c])) (bs l) = (splitP c l).map bs ∧ Lib.countB (bs l) (bs [c]) + 1 = (splitP c l).length := by
  intro n
  induction n with
  | zero =>
    intro l h
    obtain rfl : l = [] := List.length_eq_zero_iff.1 (by omega)
    have h1 : Lib.indexB (bs []) (bs [c]) = -1 := by
      show Lib.index [] [c] = -1
      rw [Lib.index_one]; rfl
    rw [Lib.countB_miss _ _ h1]
    exact ⟨rfl, rfl⟩
  | succ n ih =>
    intro l h
    have h1 : Lib.indexB (bs l) (bs [c]) = idxP l c := by
      show Lib.index l [c] = _
      rw [Lib.index_one, idxP_eq]
    cases hn : idxN c l with
    | none =>
      have h2 : Lib.indexB (bs l) (bs [c]) = -1 := by rw [h1]; simp [idxP, hn]
      rw [Lib.countB_miss _ _ h2, splitP_miss c l hn]
      exact ⟨rfl, rfl⟩
    | some i =>
      have h2 : Lib.indexB (bs l) (bs [c]) = i := by rw [h1]; simp [idxP, hn]
      obtain ⟨e, hl⟩ := splitP_hit c l i hn
      have hx : (bs l).extract (i + (bs [c]).size) (bs l).size = bs (l.drop (i + 1)) := by
        apply ByteArray.ext
        simp [bs, ByteArray.size, ByteArray.data_extract, List.take_of_length_le]
      have hy : (bs l).extract 0 (i + 0) = bs (l.take i) := by
        apply ByteArray.ext
        simp [bs, ByteArray.data_extract]
      rw [Lib.countB_hit _ _ i (by simp [bs, ByteArray.size]) h2, Nat.add_comm 1, Lib.splitB_hit _ _ _ _ i h2, hx, hy, e]
      obtain ⟨a1, a2⟩ := ih (l.drop (i + 1)) (by simp; omega)
      rw [a1]
      refine ⟨by simp, ?_⟩
      simp only [List.length_cons]
      omega
def atoiP (l : List UInt8) : Int × Bool := match Lib.atoiAll l with
  | .ok v => (v, true)
  | .range => (Lib.atoiSat l, false)
  | _ => (0, false)
def joinP (l : List (List UInt8)) (sep : List UInt8) : List UInt8 := sep.intercalate l

/-! what the contracts ask of the program's variables -/
structure GlobIs (P : Program) (N : Nat) (w : World) : Prop where
  maxLen : ∃ g m, P.globalNamed "internal/bytealg.MaxLen" = some g ∧ g < N ∧ w.cell? ⟨g, 0, none⟩ = some (.int .i64 m)
  errSyntax : ∃ g t p, P.globalNamed "strconv.ErrSyntax" = some g ∧ g < N ∧ w.cell? ⟨g, 0, none⟩ = some (.iface t p)
  errRange : ∃ g t p, P.globalNamed "strconv.ErrRange" = some g ∧ g < N ∧ w.cell? ⟨g, 0, none⟩ = some (.iface t p)
  pow10 : ∃ g, P.globalNamed "internal/strconv.uint64pow10" = some g ∧ g < N ∧ Lib.TabIs P w "internal/strconv.uint64pow10" .u64 Lib.pow10Tab
def glob (P : Program) (N : Nat) : HA :=
  ⟨fun w o _ => N ≤ w.heap.size ∧ (∀ b, b < N → o b = .no) ∧ GlobIs P N w, fun {w w' o o' k k'} hs _ h2 h => by
    obtain ⟨a1, a2, a3⟩ := h
    have hb : ∀ b, b < N → w'.heap[b]? = w.heap[b]? := fun b hb => (h2 b (by omega) (a2 b hb)).2
    refine ⟨by omega, fun b hb => (h2 b (by omega) (a2 b hb)).1, ?_⟩
    obtain ⟨⟨g1, m, e1, l1, f1⟩, ⟨g2, t2, p2, e2, l2, f2⟩, ⟨g3, t3, p3, e3, l3, f3⟩, ⟨g4, e4, l4, f4⟩⟩ := a3
    refine ⟨⟨g1, m, e1, l1, by rw [cell_of_block (hb g1 l1)]; exact f1⟩, ⟨g2, t2, p2, e2, l2, by rw [cell_of_block (hb g2 l2)]; exact f2⟩, ⟨g3, t3, p3, e3, l3, by rw [cell_of_block (hb g3 l3)]; exact f3⟩, ⟨g4, e4, l4, ?_⟩⟩
    unfold Lib.TabIs World.var? at f4 ⊢
    rw [e4] at f4 ⊢
    simp only [Option.bind_some] at f4 ⊢
    rw [hb g4 l4]; exact f4⟩
theorem free_glob {P : Program} {N : Nat} : Free (glob P N) := fun _ _ _ _ _ ho h => ⟨h.1, fun b hb => ho b (Nat.lt_of_lt_of_le hb h.1) (h.2.1 b hb), h.2.2⟩
theorem views_glob {P : Program} {N : Nat} : Views (glob P N) (glob P N) false := views_free free_glob
/-- an interface value of which only is known whether it is nil -/
def oif (v : Value) (b : Bool) : HA := ⟨fun _ _ _ => (v = .nilIface ∧ b = true) ∨ ((∃ T x, v = .iface T x) ∧ b = false), fun _ _ _ h => h⟩
theorem tr_below {w w' : World} {o : Own} (h : Below w.heap.size w w') : Tr w o w' o :=
  ⟨h.os, h.tape, h.output, h.size, fun b hb ho => ⟨ho, h.block b hb⟩, fun b hb ho => ⟨ho, h.block b hb⟩⟩
theorem bnd_below {w w' : World} {o : Own} (hb : Bnd w o) (h : Below w.heap.size w w') : Bnd w' o := fun b hle => hb b (Nat.le_trans h.size hle)
theorem ends_below {w w' : World} {o : Own} {post : Post} {v : Value} {G : List HA} (hb : Bnd w o) (h : Below w.heap.size w w') (hp : post v G) (hs : Sats w' o G) : Ends w o post (.returned v) w' :=
  ⟨v, G, o, rfl, hp, bnd_below hb h, tr_below h, hs⟩
theorem sats_nil {w : World} {o : Own} : Sats w o [] := fun j h hj => by simp at hj
theorem below_grow (w : World) (k : Nat) (os : Array Obj) : Below w.heap.size w (grow (w.drewN k) os) :=
  ⟨rfl, rfl, rfl, by simp [grow, World.drewN], fun b hb => by
    show (w.heap ++ os)[b]? = w.heap[b]?
    rw [Array.getElem?_append_left hb]⟩
end Go.Abs
namespace Go.Abs
section
variable {P : Program} {V : VF} {H : List HA} {d : Option Nat} {ty : TypeId} {pos : String} {af : Array Edge} {g : Option (Nat × Bool)}
theorem run_eq_nilIface {T : TypeId} {ms : Array (String × TypeId)} (hu : ∀ w, (underlying T).run P w = .ok (.interface ms) w) (v : Value) (b : Bool) (h : (v = .nilIface ∧ b = true) ∨ ((∃ T x, v = .iface T x) ∧ b = false)) (w : World) : (Op.equal T v .nilIface).run P w = .ok b w := by
  have h0 : ∀ (n : Nat), (Op.equalIn (n + 1) T v .nilIface).run P w = .ok b w := by
    intro n
    rcases h with ⟨rfl, rfl⟩ | ⟨⟨t, x, rfl⟩, rfl⟩ <;> simp [Op.equalIn, hu]
  exact h0 9999
theorem y_ifeq {T U : TypeId} {x : Operand} {v : Value} {b : Bool} {ms : Array (String × TypeId)} (hu : ∀ w, (underlying T).run P w = .ok (.interface ms) w) (hx : V.ev x = some v) (h : (v = .nilIface ∧ b = true) ∨ ((∃ T x, v = .iface T x) ∧ b = false)) :
    OpY P ⟨d, .binOp .eql T x (.const .nilIface) U, ty, pos, af, g⟩ V H (.bool b) := by
  intro ρ w o hf _ _
  have h1 := run_eq_nilIface hu v b h
  have h2 : ρ (.const .nilIface) = .nilIface := hf _ _ rfl
  have hx' := hf x v hx
  rcases h with ⟨rfl, rfl⟩ | ⟨⟨t, y, rfl⟩, rfl⟩ <;> simp [execOp, hx', h2, eqGuard, binOp, h1]
theorem y_ifne {T U : TypeId} {x : Operand} {v : Value} {b : Bool} {ms : Array (String × TypeId)} (hu : ∀ w, (underlying T).run P w = .ok (.interface ms) w) (hx : V.ev x = some v) (h : (v = .nilIface ∧ b = true) ∨ ((∃ T x, v = .iface T x) ∧ b = false)) :
    OpY P ⟨d, .binOp .neq T x (.const .nilIface) U, ty, pos, af, g⟩ V H (.bool (!b)) := by
  intro ρ w o hf _ _
  have h1 := run_eq_nilIface hu v b h
  have h2 : ρ (.const .nilIface) = .nilIface := hf _ _ rfl
  have hx' := hf x v hx
  rcases h with ⟨rfl, rfl⟩ | ⟨⟨t, y, rfl⟩, rfl⟩ <;> simp [execOp, hx', h2, eqGuard, binOp, h1]
theorem y_oif {T U : TypeId} {x : Operand} {v : Value} {b : Bool} {ms : Array (String × TypeId)} (m : Nat) (hm : H[m]? = some (oif v b)) (hu : ∀ w, (underlying T).run P w = .ok (.interface ms) w) (hx : V.ev x = some v) :
    OpY P ⟨d, .binOp .eql T x (.const .nilIface) U, ty, pos, af, g⟩ V H (.bool b) := fun ρ w o hf hb hs => y_ifeq hu hx (hs m _ hm) ρ w o hf hb hs
end
end Go.Abs
namespace Go.Proofs
open Go.Shelf
def Tryz.lays156_ren : Go.Shelf.Ren := ⟨fun | 156 => 72 | 165 => 82 | 166 => 83 | 169 => 84 | 240 => 93 | 241 => 94 | 276 => 109 | 277 => 110 | n => n, fun | 31 => 81 | 9 => 9 | 3 => 3 | 4 => 4 | 0 => 0 | 20 => 20 | 72 => 110 | 76 => 103 | 70 => 108 | 37 => 97 | 75 => 102 | 127 => 118 | 164 => 133 | 5 => 5 | 80 => 112 | n => n, fun | n => n⟩
theorem Tryz.lays156 : Go.Proofs.Lays.n156 Tryz.prog Tryz.lays156_ren := {
  mixed := by kernel_rfl
  f156 := Tryz.func72.trans (congrArg some (by kernel_rfl))
  f165 := Tryz.func82.trans (congrArg some (by kernel_rfl))
  f166 := Tryz.func83.trans (congrArg some (by kernel_rfl))
  f169 := Tryz.func84.trans (congrArg some (by kernel_rfl))
  f240 := Tryz.func93.trans (congrArg some (by kernel_rfl))
  f241 := Tryz.func94.trans (congrArg some (by kernel_rfl))
  f276 := Tryz.func109.trans (congrArg some (by kernel_rfl))
  f277 := Tryz.func110.trans (congrArg some (by kernel_rfl))
  t0 := Tryz.underlying0
  a0 := Tryz.isAgg0
  z0 := Tryz.sizeOf0
  v0 := Tryz.zeroValue0
  t3 := Tryz.underlying3
  a3 := Tryz.isAgg3
  z3 := Tryz.sizeOf3
  v3 := Tryz.zeroValue3
  t4 := Tryz.underlying4
  a4 := Tryz.isAgg4
  z4 := Tryz.sizeOf4
  v4 := Tryz.zeroValue4
  t9 := Tryz.underlying9
  a9 := Tryz.isAgg9
  z9 := Tryz.sizeOf9
  v9 := Tryz.zeroValue9
  t20 := Tryz.underlying20
  a20 := Tryz.isAgg20
  z20 := Tryz.sizeOf20
  v20 := Tryz.zeroValue20
  t31 := Tryz.underlying81
  a31 := Tryz.isAgg81
  z31 := Tryz.sizeOf81
  v31 := Tryz.zeroValue81
  t37 := Tryz.underlying97
  a37 := Tryz.isAgg97
  z37 := Tryz.sizeOf97
  v37 := Tryz.zeroValue97
  t70 := Tryz.underlying108
  a70 := Tryz.isAgg108
  z70 := Tryz.sizeOf108
  v70 := Tryz.zeroValue108
  t72 := Tryz.underlying110
  a72 := Tryz.isAgg110
  z72 := Tryz.sizeOf110
  v72 := Tryz.zeroValue110
  t75 := Tryz.underlying102
  a75 := Tryz.isAgg102
  z75 := Tryz.sizeOf102
  v75 := Tryz.zeroValue102
  t76 := Tryz.underlying103
  a76 := Tryz.isAgg103
  z76 := Tryz.sizeOf103
  v76 := Tryz.zeroValue103
  t127 := Tryz.underlying118
  a127 := Tryz.isAgg118
  z127 := Tryz.sizeOf118
  v127 := Tryz.zeroValue118
  t164 := Tryz.underlying133
  a164 := Tryz.isAgg133
  z164 := Tryz.sizeOf133
  v164 := Tryz.zeroValue133 }
theorem Tryz.Builder_Extra_156 : Builder.Extra Tryz.prog Tryz.lays156_ren := {
  sizeBuilder := by kernel_rfl
  liesBuilder := by kernel_rfl
  t5 := Tryz.underlying5
  a5 := Tryz.isAgg5
  z5 := Tryz.sizeOf5
  v5 := Tryz.zeroValue5
  infoByte := by kernel_rfl
  cellsByte := by kernel_rfl
  sizeByte := by kernel_rfl
  neB5 := by decide }
open Go.RowKit in
/-- strings.Join: "Join concatenates the elements of its first argument to create a single string. The separator string sep is placed between elements in the resulting string.": HOWEVER MANY ELEMENTS. Below the heap's end the world is as it was. (LAID: no walk: one application.) -/
theorem Tryz.strings_Join (bk o c : Nat) (xs : List ByteArray) (sep : ByteArray) (w : World) (hcells : ∀ (j : Nat) x, xs[j]? = some x → w.cell? ⟨bk, o + j, none⟩ = some (.string x)) (hbk : bk < w.heap.size) (hN : xs.length ≤ 140737488355328) (hcap : xs.length ≤ c) (hlen : (Lib.join (xs.map (·.data.toList)) sep.data.toList).length ≤ 140737488355328) :
    Calls Tryz.prog 72 #[.slice (some ⟨bk, o, none⟩) xs.length c, .string sep] w fun e w' => e = .returned (.string ⟨(Lib.join (xs.map (·.data.toList)) sep.data.toList).toArray⟩) ∧ Below w.heap.size w w' := Any.strings_Join Tryz.lays156 Tryz.Builder_Extra_156 bk o c xs sep w hcells hbk hN hcap hlen
def Tryz.lays137_ren : Go.Shelf.Ren := ⟨fun | 137 => 77 | 217 => 91 | 266 => 104 | n => n, fun | 9 => 9 | 5 => 5 | 3 => 3 | n => n, fun | n => n⟩
theorem Tryz.lays137 : Go.Proofs.Lays.n137 Tryz.prog Tryz.lays137_ren := {
  mixed := by kernel_rfl
  f137 := Tryz.func77.trans (congrArg some (by kernel_rfl))
  f217 := Tryz.func91.trans (congrArg some (by kernel_rfl))
  f266 := Tryz.func104.trans (congrArg some (by kernel_rfl))
  t3 := Tryz.underlying3
  a3 := Tryz.isAgg3
  z3 := Tryz.sizeOf3
  v3 := Tryz.zeroValue3
  t5 := Tryz.underlying5
  a5 := Tryz.isAgg5
  z5 := Tryz.sizeOf5
  v5 := Tryz.zeroValue5
  t9 := Tryz.underlying9
  a9 := Tryz.isAgg9
  z9 := Tryz.sizeOf9
  v9 := Tryz.zeroValue9 }
open Go.RowKit in
/-- strings.IndexByte: "IndexByte returns the index of the first instance of c in s, or -1 if c is not present in s.": IT RETURNS 'Lib.indexByte s c'; the world is as it was. (LAID: no walk: one application.) -/
theorem Tryz.strings_IndexByte (s : ByteArray) (c : Int) (w : World) :
    Calls Tryz.prog 77 #[.string s, .int .u8 c] w fun e w' => e = .returned (.int .i64 (Lib.indexByte s.data.toList c.toNat.toUInt8)) ∧ w' = w := Any.strings_IndexByte Tryz.lays137 s c w
def Tryz.laysM171_ren : Go.Shelf.Ren := ⟨fun | 171 => 71 | 243 => 81 | 246 => 92 | 283 => 105 | 284 => 106 | 285 => 107 | 286 => 108 | 129 => 119 | 317 => 118 | 318 => 120 | 319 => 121 | 320 => 122 | 337 => 126 | 338 => 127 | n => n, fun | 3 => 3 | 9 => 9 | 2 => 2 | 4 => 4 | 171 => 127 | 0 => 0 | 53 => 128 | 37 => 97 | 5 => 5 | 173 => 131 | 212 => 143 | 51 => 144 | 20 => 20 | 213 => 145 | 46 => 98 | 232 => 158 | 233 => 159 | n => n, fun | 17 => 3 | 18 => 6 | 19 => 7 | n => n⟩
theorem Tryz.laysM171 : Go.Proofs.LaysM.n171 Tryz.prog Tryz.laysM171_ren := {
  mixed := by kernel_rfl
  f129 := Tryz.func119.trans (congrArg some (by kernel_rfl))
  f171 := Tryz.func71.trans (congrArg some (by kernel_rfl))
  f243 := Tryz.func81.trans (congrArg some (by kernel_rfl))
  f246 := Tryz.func92.trans (congrArg some (by kernel_rfl))
  f283 := Tryz.func105.trans (congrArg some (by kernel_rfl))
  f284 := Tryz.func106.trans (congrArg some (by kernel_rfl))
  f285 := Tryz.func107.trans (congrArg some (by kernel_rfl))
  f286 := Tryz.func108.trans (congrArg some (by kernel_rfl))
  f317 := Tryz.func118.trans (congrArg some (by kernel_rfl))
  f318 := Tryz.func120.trans (congrArg some (by kernel_rfl))
  f319 := Tryz.func121.trans (congrArg some (by kernel_rfl))
  f320 := Tryz.func122.trans (congrArg some (by kernel_rfl))
  f337 := Tryz.func126.trans (congrArg some (by kernel_rfl))
  f338 := Tryz.func127.trans (congrArg some (by kernel_rfl))
  t0 := Tryz.underlying0
  a0 := Tryz.isAgg0
  z0 := Tryz.sizeOf0
  v0 := Tryz.zeroValue0
  t2 := Tryz.underlying2
  a2 := Tryz.isAgg2
  z2 := Tryz.sizeOf2
  v2 := Tryz.zeroValue2
  t3 := Tryz.underlying3
  a3 := Tryz.isAgg3
  z3 := Tryz.sizeOf3
  v3 := Tryz.zeroValue3
  t4 := Tryz.underlying4
  a4 := Tryz.isAgg4
  z4 := Tryz.sizeOf4
  v4 := Tryz.zeroValue4
  t5 := Tryz.underlying5
  a5 := Tryz.isAgg5
  z5 := Tryz.sizeOf5
  v5 := Tryz.zeroValue5
  t9 := Tryz.underlying9
  a9 := Tryz.isAgg9
  z9 := Tryz.sizeOf9
  v9 := Tryz.zeroValue9
  t20 := Tryz.underlying20
  a20 := Tryz.isAgg20
  z20 := Tryz.sizeOf20
  v20 := Tryz.zeroValue20
  t37 := Tryz.underlying97
  a37 := Tryz.isAgg97
  z37 := Tryz.sizeOf97
  v37 := Tryz.zeroValue97
  t46 := Tryz.underlying98
  a46 := Tryz.isAgg98
  z46 := Tryz.sizeOf98
  v46 := Tryz.zeroValue98
  t51 := Tryz.underlying144
  a51 := Tryz.isAgg144
  z51 := Tryz.sizeOf144
  v51 := Tryz.zeroValue144
  t53 := Tryz.underlying128
  a53 := Tryz.isAgg128
  z53 := Tryz.sizeOf128
  v53 := Tryz.zeroValue128
  t171 := Tryz.underlying127
  a171 := Tryz.isAgg127
  z171 := Tryz.sizeOf127
  v171 := Tryz.zeroValue127
  t173 := Tryz.underlying131
  a173 := Tryz.isAgg131
  z173 := Tryz.sizeOf131
  v173 := Tryz.zeroValue131
  t212 := Tryz.underlying143
  a212 := Tryz.isAgg143
  z212 := Tryz.sizeOf143
  v212 := Tryz.zeroValue143
  t213 := Tryz.underlying145
  a213 := Tryz.isAgg145
  z213 := Tryz.sizeOf145
  t232 := Tryz.underlying158
  a232 := Tryz.isAgg158
  z232 := Tryz.sizeOf158
  v232 := Tryz.zeroValue158
  t233 := Tryz.underlying159
  a233 := Tryz.isAgg159
  z233 := Tryz.sizeOf159
  v233 := Tryz.zeroValue159
  g17 := by kernel_rfl
  g18 := by kernel_rfl
  g19 := by kernel_rfl
  i0 := by kernel_rfl
  i2 := by kernel_rfl
  i3 := by kernel_rfl
  i4 := by kernel_rfl
  i5 := by kernel_rfl
  i9 := by kernel_rfl
  i20 := by kernel_rfl
  i37 := by kernel_rfl
  i46 := by kernel_rfl
  i51 := by kernel_rfl
  i53 := by kernel_rfl
  i171 := by kernel_rfl
  i173 := by kernel_rfl
  i212 := by kernel_rfl
  i232 := by kernel_rfl
  i233 := by kernel_rfl
  m17 := by kernel_rfl
  m18 := by kernel_rfl
  m19 := by kernel_rfl }
open Go.RowKit Go.Sort Go.Lib in
/-- strconv.Itoa: "Itoa is equivalent to FormatInt(int64(i), 10).": i's DECIMAL NUMERAL ('Lib.itoa': a '-' where i is negative, then the digits), FOR EVERY int. The world behind the call: the world before it, new blocks behind the heap (the library's 'var a [24]byte'), draws. (LAID: no walk: one application.) -/
theorem Tryz.strconv_Itoa (n : Int) (h0 : -9223372036854775808 ≤ n) (h1 : n ≤ 9223372036854775807) (w : World) (htab : Lib.TabIs Tryz.prog w "internal/strconv.uint64pow10" .u64 Lib.pow10Tab) :
    Calls Tryz.prog 71 #[.int .i64 n] w fun e w' => e = .returned (.string ⟨(Lib.itoa n).toArray⟩) ∧ ∃ k os, w' = grow (w.drewN k) os := Any.strconv_Itoa Tryz.laysM171 n h0 h1 w htab
def Tryz.laysC172_ren : Go.Shelf.Ren := ⟨fun | 172 => 76 | 244 => 89 | 245 => 90 | 247 => 99 | 279 => 100 | 280 => 101 | 281 => 102 | 282 => 103 | 287 => 115 | 316 => 116 | 171 => 71 | 205 => 117 | 321 => 124 | 322 => 125 | 243 => 81 | 246 => 92 | 283 => 105 | 284 => 106 | 285 => 107 | 286 => 108 | 129 => 119 | 317 => 118 | 318 => 120 | 319 => 121 | 320 => 122 | 337 => 126 | 338 => 127 | n => n, fun | 9 => 9 | 3 => 3 | 75 => 102 | 76 => 103 | 4 => 4 | 5 => 5 | 167 => 121 | 37 => 97 | 0 => 0 | 85 => 122 | 2 => 2 | 168 => 124 | 53 => 128 | 175 => 136 | 46 => 98 | 210 => 140 | 127 => 118 | 145 => 156 | 143 => 154 | 21 => 21 | 171 => 127 | 173 => 131 | 212 => 143 | 51 => 144 | 20 => 20 | 213 => 145 | 232 => 158 | 233 => 159 | 80 => 112 | n => n, fun | 15 => 1 | 16 => 2 | 17 => 3 | 18 => 6 | 19 => 7 | n => n⟩
theorem Tryz.laysC172 : Go.Proofs.LaysC.n172 Tryz.prog Tryz.laysC172_ren := {
  mixed := by kernel_rfl
  f129 := Tryz.func119.trans (congrArg some (by kernel_rfl))
  f171 := Tryz.func71.trans (congrArg some (by kernel_rfl))
  f172 := Tryz.func76.trans (congrArg some (by kernel_rfl))
  f205 := Tryz.func117.trans (congrArg some (by kernel_rfl))
  f243 := Tryz.func81.trans (congrArg some (by kernel_rfl))
  f244 := Tryz.func89.trans (congrArg some (by kernel_rfl))
  f245 := Tryz.func90.trans (congrArg some (by kernel_rfl))
  f246 := Tryz.func92.trans (congrArg some (by kernel_rfl))
  f247 := Tryz.func99.trans (congrArg some (by kernel_rfl))
  f279 := Tryz.func100.trans (congrArg some (by kernel_rfl))
  f280 := Tryz.func101.trans (congrArg some (by kernel_rfl))
  f281 := Tryz.func102.trans (congrArg some (by kernel_rfl))
  f282 := Tryz.func103.trans (congrArg some (by kernel_rfl))
  f283 := Tryz.func105.trans (congrArg some (by kernel_rfl))
  f284 := Tryz.func106.trans (congrArg some (by kernel_rfl))
  f285 := Tryz.func107.trans (congrArg some (by kernel_rfl))
  f286 := Tryz.func108.trans (congrArg some (by kernel_rfl))
  f287 := Tryz.func115.trans (congrArg some (by kernel_rfl))
  f316 := Tryz.func116.trans (congrArg some (by kernel_rfl))
  f317 := Tryz.func118.trans (congrArg some (by kernel_rfl))
  f318 := Tryz.func120.trans (congrArg some (by kernel_rfl))
  f319 := Tryz.func121.trans (congrArg some (by kernel_rfl))
  f320 := Tryz.func122.trans (congrArg some (by kernel_rfl))
  f321 := Tryz.func124.trans (congrArg some (by kernel_rfl))
  f322 := Tryz.func125.trans (congrArg some (by kernel_rfl))
  f337 := Tryz.func126.trans (congrArg some (by kernel_rfl))
  f338 := Tryz.func127.trans (congrArg some (by kernel_rfl))
  t0 := Tryz.underlying0
  a0 := Tryz.isAgg0
  z0 := Tryz.sizeOf0
  v0 := Tryz.zeroValue0
  t2 := Tryz.underlying2
  a2 := Tryz.isAgg2
  z2 := Tryz.sizeOf2
  v2 := Tryz.zeroValue2
  t3 := Tryz.underlying3
  a3 := Tryz.isAgg3
  z3 := Tryz.sizeOf3
  v3 := Tryz.zeroValue3
  t4 := Tryz.underlying4
  a4 := Tryz.isAgg4
  z4 := Tryz.sizeOf4
  v4 := Tryz.zeroValue4
  t5 := Tryz.underlying5
  a5 := Tryz.isAgg5
  z5 := Tryz.sizeOf5
  v5 := Tryz.zeroValue5
  t9 := Tryz.underlying9
  a9 := Tryz.isAgg9
  z9 := Tryz.sizeOf9
  v9 := Tryz.zeroValue9
  t20 := Tryz.underlying20
  a20 := Tryz.isAgg20
  z20 := Tryz.sizeOf20
  v20 := Tryz.zeroValue20
  t21 := Tryz.underlying21
  a21 := Tryz.isAgg21
  z21 := Tryz.sizeOf21
  v21 := Tryz.zeroValue21
  t37 := Tryz.underlying97
  a37 := Tryz.isAgg97
  z37 := Tryz.sizeOf97
  v37 := Tryz.zeroValue97
  t46 := Tryz.underlying98
  a46 := Tryz.isAgg98
  z46 := Tryz.sizeOf98
  v46 := Tryz.zeroValue98
  t51 := Tryz.underlying144
  a51 := Tryz.isAgg144
  z51 := Tryz.sizeOf144
  v51 := Tryz.zeroValue144
  t53 := Tryz.underlying128
  a53 := Tryz.isAgg128
  z53 := Tryz.sizeOf128
  v53 := Tryz.zeroValue128
  t75 := Tryz.underlying102
  a75 := Tryz.isAgg102
  z75 := Tryz.sizeOf102
  v75 := Tryz.zeroValue102
  t76 := Tryz.underlying103
  a76 := Tryz.isAgg103
  z76 := Tryz.sizeOf103
  v76 := Tryz.zeroValue103
  t85 := Tryz.underlying122
  a85 := Tryz.isAgg122
  z85 := Tryz.sizeOf122
  v85 := Tryz.zeroValue122
  t127 := Tryz.underlying118
  a127 := Tryz.isAgg118
  z127 := Tryz.sizeOf118
  v127 := Tryz.zeroValue118
  t143 := Tryz.underlying154
  a143 := Tryz.isAgg154
  z143 := Tryz.sizeOf154
  v143 := Tryz.zeroValue154
  t145 := Tryz.underlying156
  a145 := Tryz.isAgg156
  z145 := Tryz.sizeOf156
  v145 := Tryz.zeroValue156
  t167 := Tryz.underlying121
  a167 := Tryz.isAgg121
  z167 := Tryz.sizeOf121
  v167 := Tryz.zeroValue121
  t168 := Tryz.underlying124
  a168 := Tryz.isAgg124
  z168 := Tryz.sizeOf124
  v168 := Tryz.zeroValue124
  t171 := Tryz.underlying127
  a171 := Tryz.isAgg127
  z171 := Tryz.sizeOf127
  v171 := Tryz.zeroValue127
  t173 := Tryz.underlying131
  a173 := Tryz.isAgg131
  z173 := Tryz.sizeOf131
  v173 := Tryz.zeroValue131
  t175 := Tryz.underlying136
  a175 := Tryz.isAgg136
  z175 := Tryz.sizeOf136
  v175 := Tryz.zeroValue136
  t210 := Tryz.underlying140
  a210 := Tryz.isAgg140
  z210 := Tryz.sizeOf140
  v210 := Tryz.zeroValue140
  t212 := Tryz.underlying143
  a212 := Tryz.isAgg143
  z212 := Tryz.sizeOf143
  v212 := Tryz.zeroValue143
  t213 := Tryz.underlying145
  a213 := Tryz.isAgg145
  z213 := Tryz.sizeOf145
  t232 := Tryz.underlying158
  a232 := Tryz.isAgg158
  z232 := Tryz.sizeOf158
  v232 := Tryz.zeroValue158
  t233 := Tryz.underlying159
  a233 := Tryz.isAgg159
  z233 := Tryz.sizeOf159
  v233 := Tryz.zeroValue159
  g15 := by kernel_rfl
  g16 := by kernel_rfl
  g17 := by kernel_rfl
  g18 := by kernel_rfl
  g19 := by kernel_rfl
  t80 := Tryz.underlying112
  a80 := Tryz.isAgg112
  z80 := Tryz.sizeOf112
  v80 := Tryz.zeroValue112
  i0 := by kernel_rfl
  i2 := by kernel_rfl
  i3 := by kernel_rfl
  i4 := by kernel_rfl
  i5 := by kernel_rfl
  i9 := by kernel_rfl
  i20 := by kernel_rfl
  i21 := by kernel_rfl
  i37 := by kernel_rfl
  i46 := by kernel_rfl
  i51 := by kernel_rfl
  i53 := by kernel_rfl
  i75 := by kernel_rfl
  i76 := by kernel_rfl
  i80 := by kernel_rfl
  i85 := by kernel_rfl
  i127 := by kernel_rfl
  i143 := by kernel_rfl
  i145 := by kernel_rfl
  i167 := by kernel_rfl
  i168 := by kernel_rfl
  i171 := by kernel_rfl
  i173 := by kernel_rfl
  i175 := by kernel_rfl
  i210 := by kernel_rfl
  i212 := by kernel_rfl
  i232 := by kernel_rfl
  i233 := by kernel_rfl
  m15 := by kernel_rfl
  m16 := by kernel_rfl
  m17 := by kernel_rfl
  m18 := by kernel_rfl
  m19 := by kernel_rfl
  c0 := by kernel_rfl
  c2 := by kernel_rfl
  c3 := by kernel_rfl
  c4 := by kernel_rfl
  c5 := by kernel_rfl
  c9 := by kernel_rfl
  c20 := by kernel_rfl
  c21 := by kernel_rfl
  c37 := by kernel_rfl
  c46 := by kernel_rfl
  c51 := by kernel_rfl
  c53 := by kernel_rfl
  c75 := by kernel_rfl
  c76 := by kernel_rfl
  c80 := by kernel_rfl
  c85 := by kernel_rfl
  c127 := by kernel_rfl
  c143 := by kernel_rfl
  c145 := by kernel_rfl
  c167 := by kernel_rfl
  c168 := by kernel_rfl
  c171 := by kernel_rfl
  c173 := by kernel_rfl
  c175 := by kernel_rfl
  c210 := by kernel_rfl
  c212 := by kernel_rfl
  c213 := by kernel_rfl
  c232 := by kernel_rfl
  c233 := by kernel_rfl }
open Go.RowKit in
/-- strconv.Atoi, AT EVERY STRING THAT SPELLS AN int ('Lib.atoiAll .. = .ok v'; of whatever length: leading zeros count): v, AND NO ERROR. The world: as it was, or with the one new row that '[]byte(..)' lays. (LAID: no walk: one application.) -/
theorem Tryz.strconv_Atoi_ok (s : ByteArray) (hmax : s.size ≤ 9223372036854775806) (v : Int) (h : Lib.atoiAll s.data.toList = .ok v) (w : World) :
    Calls Tryz.prog 76 #[.string s] w fun e w' => e = .returned (.tuple #[.int .i64 v, .nilIface]) ∧ (w' = w ∨ ∃ t, w' = Lib.bytesWorld w 5 t) := Any.strconv_Atoi_ok Tryz.laysC172 s hmax v h w
open Go.RowKit in
/-- strconv.Atoi, AT EVERY STRING THAT IS NO DECIMAL NUMERAL: 0, AND AN ERROR THAT IS NOT nil: a *NumError in a new block N: {Func: "Atoi", Num: s's bytes, Err: what the variable ErrSyntax holds}. Of what was there nothing has turned. (LAID: no walk: one application.) -/
theorem Tryz.strconv_Atoi_syntax (s : ByteArray) (hlim : s.size ≤ 281474976710656) (h : Lib.atoiAll s.data.toList ≠ .range ∧ ∀ v, Lib.atoiAll s.data.toList ≠ .ok v) (ev : Value) (w : World) (hv : w.cell? ⟨1, 0, none⟩ = some ev) (hev : ev = .nilIface ∨ ∃ te pe, ev = .iface te pe) :
    Calls Tryz.prog 76 #[.string s] w fun e w' => ∃ N, e = .returned (.tuple #[.int .i64 (0), .iface 124 (.pointer (some ⟨N, 0, none⟩))]) ∧ w.heap.size ≤ N ∧ w'.heap[N]? = some (.cells #[.string ⟨#[65, 116, 111, 105]⟩, .string s, ev] 140 (0, 0)) ∧ Below w.heap.size w w' := by
  cases hh : Lib.atoiAll s.data.toList with
  | ok v => exact absurd hh (h.2 v)
  | range => exact absurd hh h.1
  | _ => exact Any.strconv_Atoi_syntax Tryz.laysC172 s hlim hh ev w hv hev
open Go.RowKit in
/-- strconv.Atoi, AT EVERY NUMERAL THAT NO int HOLDS ('.range'): THE GREATEST OR THE LEAST int, BY THE SIGN ('Lib.atoiSat'), AND AN ERROR THAT IS NOT nil: a *NumError in a new block N: {Func: "Atoi", Num: s's bytes, Err: what the variable ErrRange holds}. Of what was there nothing has turned. (LAID: no walk: one application.) -/
theorem Tryz.strconv_Atoi_range (s : ByteArray) (hlim : s.size ≤ 281474976710656) (h : Lib.atoiAll s.data.toList = .range) (ev : Value) (w : World) (hv : w.cell? ⟨2, 0, none⟩ = some ev) (hev : ev = .nilIface ∨ ∃ te pe, ev = .iface te pe) :
    Calls Tryz.prog 76 #[.string s] w fun e w' => ∃ N, e = .returned (.tuple #[.int .i64 (Lib.atoiSat s.data.toList), .iface 124 (.pointer (some ⟨N, 0, none⟩))]) ∧ w.heap.size ≤ N ∧ w'.heap[N]? = some (.cells #[.string ⟨#[65, 116, 111, 105]⟩, .string s, ev] 140 (0, 0)) ∧ Below w.heap.size w w' := Any.strconv_Atoi_range Tryz.laysC172 s hlim h ev w hv hev
def Tryz.lays146_ren : Go.Shelf.Ren := ⟨fun | 146 => 49 | 221 => 74 | 268 => 85 | 138 => 86 | 143 => 87 | 195 => 95 | 197 => 96 | 218 => 97 | 219 => 98 | 260 => 111 | 217 => 91 | 225 => 112 | 224 => 113 | 267 => 114 | 266 => 104 | 314 => 123 | n => n, fun | 9 => 9 | 31 => 81 | 3 => 3 | 4 => 4 | 0 => 0 | 105 => 119 | 21 => 21 | 5 => 5 | 46 => 98 | 119 => 147 | 139 => 150 | 138 => 149 | 146 => 151 | 51 => 144 | n => n, fun | 1 => 0 | 3 => 4 | 4 => 5 | n => n⟩
theorem Tryz.lays146 : Go.Proofs.Lays.n146 Tryz.prog Tryz.lays146_ren := {
  mixed := by kernel_rfl
  f138 := Tryz.func86.trans (congrArg some (by kernel_rfl))
  f143 := Tryz.func87.trans (congrArg some (by kernel_rfl))
  f146 := Tryz.func49.trans (congrArg some (by kernel_rfl))
  f195 := Tryz.func95.trans (congrArg some (by kernel_rfl))
  f197 := Tryz.func96.trans (congrArg some (by kernel_rfl))
  f217 := Tryz.func91.trans (congrArg some (by kernel_rfl))
  f218 := Tryz.func97.trans (congrArg some (by kernel_rfl))
  f219 := Tryz.func98.trans (congrArg some (by kernel_rfl))
  f221 := Tryz.func74.trans (congrArg some (by kernel_rfl))
  f224 := Tryz.func113.trans (congrArg some (by kernel_rfl))
  f225 := Tryz.func112.trans (congrArg some (by kernel_rfl))
  f260 := Tryz.func111.trans (congrArg some (by kernel_rfl))
  f266 := Tryz.func104.trans (congrArg some (by kernel_rfl))
  f267 := Tryz.func114.trans (congrArg some (by kernel_rfl))
  f268 := Tryz.func85.trans (congrArg some (by kernel_rfl))
  f314 := Tryz.func123.trans (congrArg some (by kernel_rfl))
  t0 := Tryz.underlying0
  a0 := Tryz.isAgg0
  z0 := Tryz.sizeOf0
  v0 := Tryz.zeroValue0
  t3 := Tryz.underlying3
  a3 := Tryz.isAgg3
  z3 := Tryz.sizeOf3
  v3 := Tryz.zeroValue3
  t4 := Tryz.underlying4
  a4 := Tryz.isAgg4
  z4 := Tryz.sizeOf4
  v4 := Tryz.zeroValue4
  t5 := Tryz.underlying5
  a5 := Tryz.isAgg5
  z5 := Tryz.sizeOf5
  v5 := Tryz.zeroValue5
  t9 := Tryz.underlying9
  a9 := Tryz.isAgg9
  z9 := Tryz.sizeOf9
  v9 := Tryz.zeroValue9
  t21 := Tryz.underlying21
  a21 := Tryz.isAgg21
  z21 := Tryz.sizeOf21
  v21 := Tryz.zeroValue21
  t31 := Tryz.underlying81
  a31 := Tryz.isAgg81
  z31 := Tryz.sizeOf81
  v31 := Tryz.zeroValue81
  t46 := Tryz.underlying98
  a46 := Tryz.isAgg98
  z46 := Tryz.sizeOf98
  v46 := Tryz.zeroValue98
  t51 := Tryz.underlying144
  a51 := Tryz.isAgg144
  z51 := Tryz.sizeOf144
  v51 := Tryz.zeroValue144
  t105 := Tryz.underlying119
  a105 := Tryz.isAgg119
  z105 := Tryz.sizeOf119
  v105 := Tryz.zeroValue119
  t119 := Tryz.underlying147
  a119 := Tryz.isAgg147
  z119 := Tryz.sizeOf147
  t138 := Tryz.underlying149
  a138 := Tryz.isAgg149
  z138 := Tryz.sizeOf149
  v138 := Tryz.zeroValue149
  t139 := Tryz.underlying150
  a139 := Tryz.isAgg150
  z139 := Tryz.sizeOf150
  v139 := Tryz.zeroValue150
  t146 := Tryz.underlying151
  a146 := Tryz.isAgg151
  z146 := Tryz.sizeOf151
  v146 := Tryz.zeroValue151
  g1 := by kernel_rfl
  g3 := by kernel_rfl
  g4 := by kernel_rfl }
open Go.RowKit Go.Lib in
/-- strings.Split. (LAID: no walk: one application.) -/
theorem Tryz.strings_Split (s sep : ByteArray) (m : Int) (w : World) (hs : s.size < 4294967281) (hm : w.cell? ⟨0, 0, none⟩ = some (.int .i64 m)) (h1 : 1 ≤ sep.size) :
    Calls Tryz.prog 49 #[.string s, .string sep] w fun e w' =>
      e = .returned (.slice (some ⟨w.heap.size, 0, none⟩) (Lib.countB s sep + 1) (Lib.countB s sep + 1)) ∧ w' = w.alloc (.cells ((Lib.splitB sep 0 (Lib.countB s sep) s).map Value.string).toArray 9) := Any.strings_Split Tryz.lays146 (by kernel_rfl) s sep m w hs hm h1
def Tryz.laysM146_ren : Go.Shelf.Ren := ⟨fun | 146 => 49 | 221 => 74 | 268 => 85 | 138 => 86 | 143 => 87 | 195 => 95 | 197 => 96 | 218 => 97 | 219 => 98 | 260 => 111 | 217 => 91 | 225 => 112 | 224 => 113 | 267 => 114 | 266 => 104 | 314 => 123 | n => n, fun | 9 => 9 | 31 => 81 | 3 => 3 | 4 => 4 | 0 => 0 | 105 => 119 | 21 => 21 | 5 => 5 | 46 => 98 | 119 => 147 | 139 => 150 | 138 => 149 | 146 => 151 | 51 => 144 | n => n, fun | 1 => 0 | 3 => 4 | 4 => 5 | n => n⟩
theorem Tryz.laysM146 : Go.Proofs.LaysM.n146 Tryz.prog Tryz.laysM146_ren := {
  mixed := by kernel_rfl
  f138 := Tryz.func86.trans (congrArg some (by kernel_rfl))
  f143 := Tryz.func87.trans (congrArg some (by kernel_rfl))
  f146 := Tryz.func49.trans (congrArg some (by kernel_rfl))
  f195 := Tryz.func95.trans (congrArg some (by kernel_rfl))
  f197 := Tryz.func96.trans (congrArg some (by kernel_rfl))
  f217 := Tryz.func91.trans (congrArg some (by kernel_rfl))
  f218 := Tryz.func97.trans (congrArg some (by kernel_rfl))
  f219 := Tryz.func98.trans (congrArg some (by kernel_rfl))
  f221 := Tryz.func74.trans (congrArg some (by kernel_rfl))
  f224 := Tryz.func113.trans (congrArg some (by kernel_rfl))
  f225 := Tryz.func112.trans (congrArg some (by kernel_rfl))
  f260 := Tryz.func111.trans (congrArg some (by kernel_rfl))
  f266 := Tryz.func104.trans (congrArg some (by kernel_rfl))
  f267 := Tryz.func114.trans (congrArg some (by kernel_rfl))
  f268 := Tryz.func85.trans (congrArg some (by kernel_rfl))
  f314 := Tryz.func123.trans (congrArg some (by kernel_rfl))
  t0 := Tryz.underlying0
  a0 := Tryz.isAgg0
  z0 := Tryz.sizeOf0
  v0 := Tryz.zeroValue0
  t3 := Tryz.underlying3
  a3 := Tryz.isAgg3
  z3 := Tryz.sizeOf3
  v3 := Tryz.zeroValue3
  t4 := Tryz.underlying4
  a4 := Tryz.isAgg4
  z4 := Tryz.sizeOf4
  v4 := Tryz.zeroValue4
  t5 := Tryz.underlying5
  a5 := Tryz.isAgg5
  z5 := Tryz.sizeOf5
  v5 := Tryz.zeroValue5
  t9 := Tryz.underlying9
  a9 := Tryz.isAgg9
  z9 := Tryz.sizeOf9
  v9 := Tryz.zeroValue9
  t21 := Tryz.underlying21
  a21 := Tryz.isAgg21
  z21 := Tryz.sizeOf21
  v21 := Tryz.zeroValue21
  t31 := Tryz.underlying81
  a31 := Tryz.isAgg81
  z31 := Tryz.sizeOf81
  v31 := Tryz.zeroValue81
  t46 := Tryz.underlying98
  a46 := Tryz.isAgg98
  z46 := Tryz.sizeOf98
  v46 := Tryz.zeroValue98
  t51 := Tryz.underlying144
  a51 := Tryz.isAgg144
  z51 := Tryz.sizeOf144
  v51 := Tryz.zeroValue144
  t105 := Tryz.underlying119
  a105 := Tryz.isAgg119
  z105 := Tryz.sizeOf119
  v105 := Tryz.zeroValue119
  t119 := Tryz.underlying147
  a119 := Tryz.isAgg147
  z119 := Tryz.sizeOf147
  t138 := Tryz.underlying149
  a138 := Tryz.isAgg149
  z138 := Tryz.sizeOf149
  v138 := Tryz.zeroValue149
  t139 := Tryz.underlying150
  a139 := Tryz.isAgg150
  z139 := Tryz.sizeOf150
  v139 := Tryz.zeroValue150
  t146 := Tryz.underlying151
  a146 := Tryz.isAgg151
  z146 := Tryz.sizeOf151
  v146 := Tryz.zeroValue151
  g1 := by kernel_rfl
  g3 := by kernel_rfl
  g4 := by kernel_rfl
  i0 := by kernel_rfl
  i3 := by kernel_rfl
  i4 := by kernel_rfl
  i5 := by kernel_rfl
  i9 := by kernel_rfl
  i21 := by kernel_rfl
  i31 := by kernel_rfl
  i46 := by kernel_rfl
  i51 := by kernel_rfl
  i105 := by kernel_rfl
  i138 := by kernel_rfl
  i139 := by kernel_rfl
  i146 := by kernel_rfl
  m1 := by kernel_rfl
  s1_3 := fun w h => Go.Proofs.cell_of_shapedOpen_int (zero := #[.int .i64 0]) (t := 3) h (of_decide_eq_true (by kernel_rfl)) (by kernel_rfl) rfl (by kernel_rfl) (by kernel_rfl) Tryz.underlying3
  m3 := by kernel_rfl
  m4 := by kernel_rfl }
end Go.Proofs
namespace Go.Proofs.YtbgpojdmdnkeaaaGreatDoor
open Go.Abs Go.RowKit
def globA : HA := glob Tryz.prog 8
theorem gMax : Tryz.prog.globalNamed "internal/bytealg.MaxLen" = some 0 := by kernel_rfl
theorem gSyn : Tryz.prog.globalNamed "strconv.ErrSyntax" = some 1 := by kernel_rfl
theorem gRng : Tryz.prog.globalNamed "strconv.ErrRange" = some 2 := by kernel_rfl
def itoaH (n : Int) : Option (List UInt8) := need (-9223372036854775808 ≤ n ∧ n ≤ 9223372036854775807) (some (itoaP n))
theorem itoaH_ok (n : Int) {r : List UInt8} (h : itoaH n = some r) : Meets Tryz.prog 71 [.int .i64 n] [globA] (fun v G => v = .string (bs r) ∧ G = []) := by
  obtain ⟨hn, h⟩ := need_some h
  obtain rfl := Option.some.inj h
  intro w o hb hs
  have hg : GlobIs Tryz.prog 8 w := (hs 0 _ rfl).2.2
  obtain ⟨_, _, _, htab⟩ := hg.pow10
  refine (Tryz.strconv_Itoa n hn.1 hn.2 w htab).mono ?_
  rintro e w' ⟨rfl, k, os, rfl⟩
  exact ends_below hb (below_grow w k os) ⟨by rw [itoaP_eq hn.1 hn.2]; rfl, rfl⟩ sats_nil
def idxH (s : List UInt8) (c : Int) : Option Int := some (idxP s c.toNat.toUInt8)
theorem idxH_ok (s : List UInt8) (c : Int) {r : Int} (h : idxH s c = some r) : Meets Tryz.prog 77 [.string (bs s), .int .u8 c] [] (fun v G => v = .int .i64 r ∧ G = []) := by
  obtain rfl := Option.some.inj h
  intro w o hb hs
  refine (Tryz.strings_IndexByte (bs s) c w).mono ?_
  rintro e w' ⟨rfl, rfl⟩
  exact ends_below hb (Below.refl _ _) ⟨by rw [← idxP_eq]; rfl, rfl⟩ sats_nil
def atoiH (s : List UInt8) : Option (Int × Bool) := need (s.length ≤ 4294967296) (some (atoiP s))
theorem atoiH_ok (s : List UInt8) {r : Int × Bool} (h : atoiH s = some r) : Meets Tryz.prog 76 [.string (bs s)] [globA] (fun v G => ∃ v0, v = .tuple #[.int .i64 r.1, v0] ∧ G = [oif v0 r.2]) := by
  obtain ⟨hl, h⟩ := need_some h
  obtain rfl := Option.some.inj h
  intro w o hb hs
  have hg : GlobIs Tryz.prog 8 w := (hs 0 _ rfl).2.2
  have hsz : (bs s).size = s.length := by simp [bs, ByteArray.size]
  have hd : (bs s).data.toList = s := by simp [bs]
  unfold atoiP
  cases ha : Lib.atoiAll s with
  | ok v =>
    refine (Tryz.strconv_Atoi_ok (bs s) (by omega) v (by rw [hd]; exact ha) w).mono ?_
    rintro e w' ⟨rfl, hw⟩
    have hbl : Below w.heap.size w w' := by
      rcases hw with rfl | ⟨t, rfl⟩
      · exact Below.refl _ _
      · exact Lib.bytesWorld_below _ _ _
    exact ends_below hb hbl ⟨_, rfl, rfl⟩ fun j g hj => by
      cases j with
      | zero => obtain rfl := Option.some.inj hj; exact .inl ⟨rfl, rfl⟩
      | succ j => simp at hj
  | range =>
    obtain ⟨g, t, p, e1, _, e2⟩ := hg.errRange
    obtain rfl := Option.some.inj (gRng.symm.trans e1)
    refine (Tryz.strconv_Atoi_range (bs s) (by omega) (by rw [hd]; exact ha) _ w e2 (.inr ⟨t, p, rfl⟩)).mono ?_
    rintro e w' ⟨M, rfl, _, _, hbl⟩
    exact ends_below hb hbl ⟨_, by rw [hd], rfl⟩ fun j g hj => by
      cases j with
      | zero => obtain rfl := Option.some.inj hj; exact .inr ⟨⟨_, _, rfl⟩, rfl⟩
      | succ j => simp at hj
  | _ =>
    obtain ⟨g, t, p, e1, _, e2⟩ := hg.errSyntax
    obtain rfl := Option.some.inj (gSyn.symm.trans e1)
    refine (Tryz.strconv_Atoi_syntax (bs s) (by omega) (by rw [hd, ha]; exact ⟨fun q => (by cases q), fun v q => (by cases q)⟩) _ w e2 (.inr ⟨t, p, rfl⟩)).mono ?_
    rintro e w' ⟨M, rfl, _, _, hbl⟩
    exact ends_below hb hbl ⟨_, rfl, rfl⟩ fun j g hj => by
      cases j with
      | zero => obtain rfl := Option.some.inj hj; exact .inr ⟨⟨_, _, rfl⟩, rfl⟩
      | succ j => simp at hj
def splitH (s sep : List UInt8) : Option (List (List UInt8)) := need (s.length ≤ 1073741824) (match sep with | [c] => some (splitP c s) | _ => none)
theorem splitP_len (c : UInt8) : ∀ l : List UInt8, (splitP c l).length ≤ l.length + 1
  | [] => by simp [splitP]
  | b :: r => by
    have := splitP_len c r
    unfold splitP
    split
    · simp; omega
    · split
      · simp
      · rename_i hq; rw [hq] at this; simp at this ⊢; omega
theorem splitH_ok (s sep : List UInt8) {r : List (List UInt8)} (h : splitH s sep = some r) : Meets Tryz.prog 49 [.string (bs s), .string (bs sep)] [globA] (fun v G => ∃ v0, v = v0 ∧ G = [row v0 1 (r.map eStr)]) := by
  obtain ⟨hl, h⟩ := need_some h
  match sep, h with
  | [c], h =>
    obtain rfl := Option.some.inj h
    intro w o hb hs
    have hg : GlobIs Tryz.prog 8 w := (hs 0 _ rfl).2.2
    obtain ⟨g, m, e1, _, e2⟩ := hg.maxLen
    obtain rfl := Option.some.inj (gMax.symm.trans e1)
    have hsz : (bs s).size = s.length := by simp [bs, ByteArray.size]
    obtain ⟨a1, a2⟩ := splitB_eq c s.length s (Nat.le_refl _)
    refine (Tryz.strings_Split (bs s) (bs [c]) m w (by omega) e2 (by simp [bs, ByteArray.size])).mono ?_
    rintro e w' ⟨rfl, rfl⟩
    rw [a1, a2]
    have hlen := splitP_len c s
    refine ⟨_, _, fun b => if b = w.heap.size then .mine 0 else o b, rfl, ⟨_, rfl, rfl⟩, ?_, ?_, ?_⟩
    · intro b hb'
      simp [World.alloc, -World.alloc_eq] at hb'
      simp only [show ¬ b = w.heap.size by omega, if_false]
      exact hb b (by omega)
    · refine ⟨rfl, rfl, rfl, by simp [World.alloc, -World.alloc_eq], fun b hlt ho => ⟨by simp only [show ¬ b = w.heap.size by omega, if_false]; exact ho, Below.heap_alloc _ _ _ hlt⟩, fun b hlt ho => ⟨by simp only [show ¬ b = w.heap.size by omega, if_false]; exact ho, Below.heap_alloc _ _ _ hlt⟩⟩
    · intro j g hj
      cases j with
      | succ j => simp at hj
      | zero =>
        obtain rfl := Option.some.inj hj
        refine .inr ⟨w.heap.size, 0, (splitP c s).length, ((splitP c s).map bs |>.map Value.string).toArray, 9, (0, 0), by simp, by simp, by simp [World.alloc, -World.alloc_eq], by simp [World.alloc, -World.alloc_eq], .inl (Nat.le_refl _), by simp, by simp, ?_, ?_, ?_⟩
        · have : (4294967296 : Nat) ≤ maxLen := by decide
          omega
        · intro c' hc'
          obtain ⟨x, _, rfl⟩ := List.mem_map.1 hc'
          rfl
        · intro i c' hi j x hj
          simp only [List.getElem?_map, Option.map_eq_some_iff] at hi
          obtain ⟨y, hy, rfl⟩ := hi
          cases j with
          | succ j => simp [eStr] at hj
          | zero =>
            obtain rfl : Value.string (bs y) = x := by simpa [eStr] using hj
            simp [hy]
def joinH (l : List (List UInt8)) (sep : List UInt8) : Option (List UInt8) := need (0 < l.length ∧ l.length ≤ 4294967296 ∧ (joinP l sep).length ≤ 4294967296) (some (joinP l sep))
theorem joinH_ok (l : List (List UInt8)) (sep : List UInt8) (v : Value) {r : List UInt8} (h : joinH l sep = some r) : Meets Tryz.prog 72 [v, .string (bs sep)] [ro v 1 (l.map eStr)] (fun v G => v = .string (bs r) ∧ G = []) := by
  obtain ⟨⟨h1, h2, h3⟩, h⟩ := need_some h
  obtain rfl := Option.some.inj h
  intro w o hb hs
  obtain ⟨a, cap, rfl, c1, c2, c3, c4⟩ := hs 0 _ rfl
  obtain ⟨x0, hx0⟩ : ∃ x, l[0]? = some x := ⟨_, List.getElem?_eq_getElem h1⟩
  obtain ⟨_, b, off, rfl, c5, c6, c7⟩ := c4 0 (eStr x0) (by simp [hx0])
  have hm : (l.map bs).map (fun x => x.data.toList) = l := by
    rw [List.map_map]
    conv => rhs; rw [← List.map_id l]
    exact List.map_congr_left fun x _ => by simp [bs]
  have hsep : (bs sep).data.toList = sep := by simp [bs]
  have := Tryz.strings_Join b off cap (l.map bs) (bs sep) w (fun j x hj => by
    simp only [List.getElem?_map, Option.map_eq_some_iff] at hj
    obtain ⟨y, hy, rfl⟩ := hj
    obtain ⟨_, b', off', e', _, _, c8⟩ := c4 j (eStr y) (by simp [hy])
    obtain ⟨rfl, rfl⟩ : b' = b ∧ off' = off := by simp only [Option.some.injEq, Addr.mk.injEq] at e'; exact ⟨e'.1.symm, e'.2.1.symm⟩
    have := c8 0 _ rfl
    simpa using this) c5 (by simp; omega) (by simpa using c1) (by rw [hm, hsep]; show (joinP l sep).length ≤ _; omega)
  simp only [List.length_map] at this ⊢
  refine this.mono ?_
  rintro e w' ⟨rfl, hbl⟩
  rw [hm, hsep]
  exact ends_below hb hbl ⟨rfl, rfl⟩ sats_nil
end Go.Proofs.YtbgpojdmdnkeaaaGreatDoor
namespace Go.Proofs.YtbgpojdmdnkeaaaGreatDoor
open Go.Abs
set_option maxRecDepth 20000
theorem parseRec_ret (b c : Nat) (H : List HA) : RecD Tryz.prog 48 [boxP b 0, boxP c 0] .returning .returning H H := by
  refine recD_of Tryz.func48 rfl Tryz.ntmps48 rfl (fun w0 o0 c0 cf hu => ?_)
  refine runS_seq (runS_region [0, 1] rfl ?_)
  refine opsS_recover (v := .nilIface) (cs' := c0 :: cf) rfl rfl (by simp [recoverD, hu]) ?_
  refine opsS_y rfl rfl rfl (y_assign rfl) ?_
  refine opsS_nil (opsS_next ?_)
  refine runS_seq (runS_region [0, 1] rfl ?_)
  refine opsS_y rfl rfl rfl (y_move rfl) ?_
  refine opsS_y rfl rfl rfl (y_ifne (v := .nilIface) (b := true) Tryz.runUnderlying20 rfl (.inl ⟨rfl, rfl⟩)) ?_
  refine opsS_nil (opsS_next ?_)
  refine runS_cond_f rfl ?_
  exact runS_skip (leafS Tryz.results48 (congrArg (· :: cf) (mode_same hu)))
theorem parseRec_pan (b c : Nat) (e : Int) {H : List HA} (i j : Nat) {vs : List Value} {x : Value} (hi : H[i]? = some (box b vs)) (hl : vs.length = 3) (hj : H[j]? = some (box c [x])) (hij : i ≠ j) :
    RecD Tryz.prog 48 [boxP b 0, boxP c 0] (.panicking [{ v := .iface 27 (.int .i64 e), recovered := false }]) (.panicking [{ v := .iface 27 (.int .i64 e), recovered := true }]) H
      ((H.set i (box b [.int .i64 0, .slice none 0 0, .bool false])).set j (box c [.int .i64 e])) := by
  refine recD_of Tryz.func48 rfl Tryz.ntmps48 rfl (fun w0 o0 c0 cf hu => ?_)
  refine runS_seq (runS_region [0, 1] rfl ?_)
  refine opsS_recover (v := .iface 27 (.int .i64 e)) (cs' := { c0 with mode := .panicking [{ v := .iface 27 (.int .i64 e), recovered := true }] } :: cf) rfl rfl (by simp [recoverD, hu]) ?_
  refine opsS_y rfl rfl rfl (y_assign rfl) ?_
  refine opsS_nil (opsS_next ?_)
  refine runS_seq (runS_region [0, 1] rfl ?_)
  refine opsS_y rfl rfl rfl (y_move rfl) ?_
  refine opsS_y rfl rfl rfl (y_ifne (v := .iface 27 (.int .i64 e)) (b := false) Tryz.runUnderlying20 rfl (.inr ⟨⟨_, _, rfl⟩, rfl⟩)) ?_
  refine opsS_nil (opsS_next ?_)
  refine runS_cond_t rfl ?_
  refine runS_of (fun L hL => ?_)
  refine run_drawany [] (by kernel_rfl) ?_
  refine any_y 0 rfl (by kernel_rfl) (by kernel_rfl) (by kernel_rfl) sub_nil (wn rfl) rfl (y_build_struct (cells := #[.int .i64 0, .slice none 0 0, .bool false]) [] [] Tryz.zeroValue24 Tryz.runUnderlying24 (fs_cons Tryz.sizeOf3 (fs_cons Tryz.sizeOf22 (fs_cons Tryz.sizeOf4 fs_nil))) rfl rfl rfl) ?_
  refine any_y 1 rfl (by kernel_rfl) (by kernel_rfl) (by kernel_rfl) sub_nil (wn rfl) rfl (y_move rfl) ?_
  refine any_y 2 rfl (by kernel_rfl) (by kernel_rfl) (by kernel_rfl) sub_nil (wn rfl) rfl (y_assert Tryz.runUnderlying27 rfl rfl) ?_
  refine any_all [3] (by kernel_rfl) rfl (anyo_cons ?_ anyo_nil)
  refine any_t rfl (wn rfl) rfl (t_store_all (b := b) (c := [.int .i64 0, .slice none 0 0, .bool false]) i Tryz.sizeOf24 rfl rfl hi rfl hl (by simp [Value.oneCell'])) ?_
  rintro _ _ ⟨rfl, rfl⟩
  refine ⟨sub_nil, ?_⟩
  refine any_all [4] (by kernel_rfl) rfl (anyo_cons ?_ anyo_nil)
  refine any_t rfl (wn rfl) rfl (t_store (b := c) (off := 0) (vs := [x]) (v := .int .i64 e) j Tryz.sizeOf27 rfl rfl (by rw [List.getElem?_set_ne hij]; exact hj) rfl (by simp) (by simp [Value.cells, Value.oneCell'])) ?_
  rintro _ _ ⟨rfl, rfl⟩
  refine ⟨sub_nil, ?_⟩
  refine any_nil (by kernel_rfl) ?_
  exact fun a w r => hL _ _ (leafS Tryz.results48 rfl) a w r
end Go.Proofs.YtbgpojdmdnkeaaaGreatDoor
namespace Go.Abs
end Go.Abs
namespace Go.Abs
variable {P : Program} {V : VF} {H : List HA} {d : Option Nat} {ty : TypeId} {pos : String} {af : Array Edge} {g : Option (Nat × Bool)}
end Go.Abs
