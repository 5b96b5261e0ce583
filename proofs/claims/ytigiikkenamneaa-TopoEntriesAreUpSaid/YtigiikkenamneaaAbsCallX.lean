/-
  Calls that are lent memory of the caller's own: what is lent comes back with the results.
-/
import Derived.Test.YtigiikkenamneaaAbsLift3
namespace Go.Abs
variable {E : Env} {k : List KI} {V : VF} {H : List HA}

/-- how an assertion of the caller's is handed to the callee: 0 seen as it is, 1 looked into, 2 lent -/
def ownX (sh : List (Nat × Nat)) (o : Own) : Own := fun b => match o b with
  | .mine m => match sh.findIdx? (fun s => s.2 == 2 && s.1 == m) with
    | some j => .mine j
    | none => if sh.any (fun s => s.2 == 1 && s.1 == m) then .no else .far
  | x => x
def okX (sh : List (Nat × Nat)) : Bool := (List.range sh.length).all fun j => match sh[j]? with
  | some (m, mode) => if mode == 2 then sh.findIdx? (fun s => s.2 == 2 && s.1 == m) == some j else
      if mode == 1 then (sh.findIdx? (fun s => s.2 == 2 && s.1 == m)).isNone else true
  | none => true
def ShowsX (H : List HA) (sh : List (Nat × Nat)) (Hc : List HA) : Prop :=
  sh.length = Hc.length ∧ ∀ (j m mode : Nat) (h : HA), sh[j]? = some (m, mode) → Hc[j]? = some h → ∃ h', H[m]? = some h' ∧ (if mode = 2 then h' = h else Views h' h (mode == 1))
theorem showsX_nil : ShowsX H [] [] := ⟨rfl, fun j m mode h hj => by simp at hj⟩
theorem showsX_view {sh : List (Nat × Nat)} {Hc : List HA} {h' h : HA} (m : Nat) (hm : H[m]? = some h') (hv : Views h' h false) (hr : ShowsX H sh Hc) : ShowsX H ((m, 0) :: sh) (h :: Hc) := by
  refine ⟨by simp [hr.1], fun j m' mode x hj hx => ?_⟩
  cases j with
  | zero => simp at hj hx; obtain ⟨rfl, rfl⟩ := hj; subst hx; exact ⟨h', hm, hv⟩
  | succ j => exact hr.2 j m' mode x (by simpa using hj) (by simpa using hx)
theorem showsX_look {sh : List (Nat × Nat)} {Hc : List HA} {h' h : HA} (m : Nat) (hm : H[m]? = some h') (hv : Views h' h true) (hr : ShowsX H sh Hc) : ShowsX H ((m, 1) :: sh) (h :: Hc) := by
  refine ⟨by simp [hr.1], fun j m' mode x hj hx => ?_⟩
  cases j with
  | zero => simp at hj hx; obtain ⟨rfl, rfl⟩ := hj; subst hx; exact ⟨h', hm, hv⟩
  | succ j => exact hr.2 j m' mode x (by simpa using hj) (by simpa using hx)
theorem showsX_lend {sh : List (Nat × Nat)} {Hc : List HA} {h : HA} (m : Nat) (hm : H[m]? = some h) (hr : ShowsX H sh Hc) : ShowsX H ((m, 2) :: sh) (h :: Hc) := by
  refine ⟨by simp [hr.1], fun j m' mode x hj hx => ?_⟩
  cases j with
  | zero => simp at hj hx; obtain ⟨rfl, rfl⟩ := hj; subst hx; exact ⟨h, hm, rfl⟩
  | succ j => exact hr.2 j m' mode x (by simpa using hj) (by simpa using hx)
/-- what is lent is the caller's no more -/
def lentOut (sh : List (Nat × Nat)) (H : List HA) : List HA := sh.foldl (fun H s => if s.2 == 2 then H.set s.1 HA.emp else H) H
theorem lentOut_length : ∀ (sh : List (Nat × Nat)) (H : List HA), (lentOut sh H).length = H.length
  | [], H => rfl
  | s :: sh, H => by
    unfold lentOut
    rw [List.foldl_cons]
    have := lentOut_length sh (if s.2 == 2 then H.set s.1 HA.emp else H)
    unfold lentOut at this
    rw [this]; split <;> simp
theorem lentOut_get : ∀ (sh : List (Nat × Nat)) (H : List HA) (m : Nat) (h : HA), (lentOut sh H)[m]? = some h → h = HA.emp ∨ (H[m]? = some h ∧ ∀ s ∈ sh, s.2 = 2 → s.1 ≠ m)
  | [], H, m, h, hm => .inr ⟨hm, by simp⟩
  | s :: sh, H, m, h, hm => by
    unfold lentOut at hm
    rw [List.foldl_cons] at hm
    rcases lentOut_get sh _ m h hm with h1 | ⟨h1, h2⟩
    · exact .inl h1
    · by_cases hs : s.2 = 2
      · simp only [hs, beq_self_eq_true, if_true] at h1
        by_cases he : s.1 = m
        · left
          subst he
          rw [List.getElem?_set] at h1
          simp at h1
          exact h1.2.symm
        · rw [List.getElem?_set_ne he] at h1
          exact .inr ⟨h1, fun x hx h3 => by
            rcases List.mem_cons.1 hx with rfl | hx
            · exact he
            · exact h2 x hx h3⟩
      · have : (s.2 == 2) = false := by simpa using hs
        simp only [this] at h1
        exact .inr ⟨h1, fun x hx h3 => by
          rcases List.mem_cons.1 hx with rfl | hx
          · exact absurd h3 hs
          · exact h2 x hx h3⟩

theorem t_callx {P : Program} {d : Option Nat} {ty : TypeId} {pos : String} {af : Array Edge} {g : Option (Nat × Bool)} {fx : Operand} {f : FuncId} {xs : Array Operand} {Ts : Array TypeId} {vs cs : List Value} {Hc : List HA} {post : Post}
    (sh : List (Nat × Nat)) (hfx : V.ev fx = some (.func (.func f) #[] cs.toArray)) (hcall : ∀ args w, (callFunc f args).run P w = .ok (.enter f args) w)
    (hxs : xs.toList.map V.ev = vs.map some) (hc : Meets P f (vs ++ cs) Hc post) (hsh : ShowsX H sh Hc) (hok : okX sh = true)
    (hst : (sh.all fun s => s.2 != 1) = true ∨ ∀ v G, post v G → ∀ g ∈ G, g.Strict) :
    OpT P ⟨d, .call ⟨.value fx, xs, Ts⟩, ty, pos, af, g⟩ V H (fun v' H' => ∃ G, post v' G ∧ H' = lentOut sh H ++ G) := by
  intro ρ w o hf hbd hs
  have hargs : (xs.map ρ) = vs.toArray := by
    apply Array.ext'
    rw [Array.toList_map]
    generalize xs.toList = l at hxs
    clear hc
    induction l generalizing vs with
    | nil => cases vs <;> simp_all
    | cons x r ih =>
      cases vs with
      | nil => simp at hxs
      | cons v vs =>
        simp only [List.map_cons, List.cons.injEq] at hxs ⊢
        exact ⟨hf _ _ hxs.1, ih hxs.2⟩
  have hrun : (execOp ρ ⟨d, .call ⟨.value fx, xs, Ts⟩, ty, pos, af, g⟩).run P w = .ok (.enter f (vs ++ cs).toArray) w := by
    simp [execOp, resolve, invoke, Deferred.ofValue, hf fx _ hfx, hargs, hcall]
  unfold Does
  rw [hrun]
  have hoc : ∀ b, o b = .no → ownX sh o b = .no := fun b hb => by simp [ownX, hb]
  have hall := List.all_eq_true.1 hok
  have hfar : ∀ b, o b = .far → ownX sh o b = .far := fun b hb => by simp [ownX, hb]
  -- who holds a block of the caller's own during the call
  have hmine : ∀ b m, o b = .mine m → (∃ j, sh.findIdx? (fun s => s.2 == 2 && s.1 == m) = some j ∧ ownX sh o b = .mine j) ∨
      (sh.findIdx? (fun s => s.2 == 2 && s.1 == m) = none ∧ ((ownX sh o b = .no ∧ (sh.any fun s => s.2 == 1 && s.1 == m) = true) ∨ ownX sh o b = .far)) := by
    intro b m hb
    simp only [ownX, hb]
    cases hfi : sh.findIdx? (fun s => s.2 == 2 && s.1 == m) with
    | some j => exact .inl ⟨j, rfl, rfl⟩
    | none =>
      right
      refine ⟨rfl, ?_⟩
      simp only []
      split
      · rename_i h; exact .inl ⟨rfl, h⟩
      · exact .inr rfl
  refine (hc w (ownX sh o) (fun b hb => hoc b (hbd b hb)) ?_).mono ?_
  · intro j h hj
    have hlt : j < sh.length := by rw [hsh.1]; exact (List.getElem?_eq_some_iff.1 hj).1
    obtain ⟨⟨m, mode⟩, hsj⟩ : ∃ s, sh[j]? = some s := ⟨_, List.getElem?_eq_getElem hlt⟩
    obtain ⟨h', hm, hv⟩ := hsh.2 j m mode h hsj hj
    have hchk := hall j (by simp [hlt])
    rw [hsj] at hchk
    simp only at hchk
    by_cases h2 : mode = 2
    · subst h2
      simp only [if_true] at hv
      subst hv
      simp only [beq_self_eq_true, if_true, beq_iff_eq] at hchk
      exact h'.keep (Nat.le_refl _) (fun b _ hb => ⟨by simp only [ownX, hb, hchk], rfl⟩) (fun b _ hb => ⟨hoc b hb, rfl⟩) (hs _ h' hm)
    · rw [if_neg h2] at hv
      refine hv w o _ _ j (fun b _ => hoc b) (fun hl b _ hb => ?_) (hs _ h' hm)
      have h1 : mode = 1 := by simpa using hl
      subst h1
      simp only [show ((1 : Nat) == 2) = false from rfl, beq_self_eq_true, if_true, Bool.false_eq_true, if_false, Option.isNone_iff_eq_none] at hchk
      rcases hmine b m hb with ⟨j', hj', _⟩ | ⟨_, h3 | h3⟩
      · rw [hchk] at hj'; cases hj'
      · exact h3.1
      · exfalso
        simp only [ownX, hb] at h3
        rw [hchk] at h3
        simp only at h3
        rw [if_pos (List.any_eq_true.2 ⟨(m, 1), List.mem_of_getElem? hsj, by simp⟩)] at h3
        cases h3
  · rintro e w' ⟨v, G, o', rfl, hp, hb', ht, hs'⟩
    let o2 : Own := fun b => if b < w.heap.size then (match o b with
        | .mine m => if (sh.findIdx? (fun s => s.2 == 2 && s.1 == m)).isSome then (match o' b with | .mine j => .mine (H.length + j) | _ => .no) else .mine m
        | x => x) else match o' b with | .mine j => .mine (H.length + j) | _ => .no
    -- what is not lent is as it was
    have keepb : ∀ b, b < w.heap.size → (∀ m, o b = .mine m → sh.findIdx? (fun s => s.2 == 2 && s.1 == m) = none) → o2 b = o b ∧ w'.heap[b]? = w.heap[b]? := by
      intro b hlt hnl
      cases hob : o b with
      | no => exact ⟨by simp [o2, hlt, hob], (ht.no b hlt (hoc b hob)).2⟩
      | far => exact ⟨by simp [o2, hlt, hob], (ht.far b hlt (hfar b hob)).2⟩
      | mine m =>
        have hn := hnl m hob
        refine ⟨by simp [o2, hlt, hob, hn], ?_⟩
        rcases hmine b m hob with ⟨j, hj, _⟩ | ⟨_, h3 | h3⟩
        · rw [hn] at hj; cases hj
        · exact (ht.no b hlt h3.1).2
        · exact (ht.far b hlt h3).2
    have hG : ∀ j b, o' b = .mine j → o2 b = .mine (H.length + j) := by
      intro j b he
      by_cases hlt : b < w.heap.size
      · cases hob : o b with
        | no => have := (ht.no b hlt (hoc b hob)).1; rw [he] at this; cases this
        | far => have := (ht.far b hlt (hfar b hob)).1; rw [he] at this; cases this
        | mine m =>
          rcases hmine b m hob with ⟨j', hj', _⟩ | ⟨hn, h3 | h3⟩
          · simp [o2, hlt, hob, hj', he]
          · have := (ht.no b hlt h3.1).1; rw [he] at this; cases this
          · have := (ht.far b hlt h3).1; rw [he] at this; cases this
      · simp [o2, hlt, he]
    refine ⟨v, rfl, lentOut sh H ++ G, o2, ⟨G, hp, rfl⟩, ?_, ?_, ?_⟩
    · intro b hle
      have hsz := ht.size
      have : ¬ b < w.heap.size := by omega
      simp [o2, this, hb' b hle]
    · refine ⟨ht.os, ht.tape, ht.output, ht.size, fun b hlt hb => ?_, fun b hlt hb => ?_⟩
      · have := keepb b hlt (fun m hm => by rw [hb] at hm; cases hm)
        exact ⟨this.1.trans hb, this.2⟩
      · have := keepb b hlt (fun m hm => by rw [hb] at hm; cases hm)
        exact ⟨this.1.trans hb, this.2⟩
    · intro j h hj
      rw [List.getElem?_append] at hj
      split at hj
      · rename_i hlt0
        rcases lentOut_get sh H j h hj with rfl | ⟨hj1, hj2⟩
        · trivial
        · refine h.keep ht.size (fun b hlt hb => ?_) (fun b hlt hb => ?_) (hs j h hj1)
          · have := keepb b hlt (fun m hm => by
              rw [hb] at hm; injection hm with hm; subst hm
              rw [List.findIdx?_eq_none_iff]
              intro s hsm
              by_cases h2 : s.2 = 2
              · have := hj2 s hsm h2; simp [this]
              · simp [h2])
            exact ⟨this.1.trans hb, this.2⟩
          · have := keepb b hlt (fun m hm => by rw [hb] at hm; cases hm)
            exact ⟨this.1.trans hb, this.2⟩
      · rename_i hge
        rw [lentOut_length] at hge hj
        have hjj : H.length + (j - H.length) = j := by omega
        have hp' := hs' _ h hj
        rcases hst with hst | hst
        · refine h.keep (Nat.le_refl _) (fun b _ hb => ⟨by rw [hG _ b hb, hjj], rfl⟩) (fun b hlt hb => ⟨?_, rfl⟩) hp'
          by_cases hlt' : b < w.heap.size
          · cases hob : o b with
            | no => simp [o2, hlt', hob]
            | far => have := (ht.far b hlt' (hfar b hob)).1; rw [hb] at this; cases this
            | mine m =>
              rcases hmine b m hob with ⟨j', hj', _⟩ | ⟨hn, h3 | h3⟩
              · simp [o2, hlt', hob, hj', hb]
              · exfalso
                obtain ⟨s, hsm, hs2⟩ := List.any_eq_true.1 h3.2
                have := List.all_eq_true.1 hst s hsm
                simp at this hs2
                exact this hs2.1
              · have := (ht.far b hlt' h3).1; rw [hb] at this; cases this
          · simp [o2, hlt', hb]
        · have hgm : h ∈ G := List.mem_of_getElem? hj
          exact hst v G hp h hgm w' o' _ o2 j (fun b _ hb => by rw [hG _ b hb, hjj]) hp'
end Go.Abs
