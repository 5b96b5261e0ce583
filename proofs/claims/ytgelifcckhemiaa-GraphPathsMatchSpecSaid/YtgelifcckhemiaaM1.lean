/-
  Texts that stand side by side: AbsCallX, AbsOps2, AbsNest, AbsCopy, AbsRange, AbsIface.
-/
import Derived.Test.YtgelifcckhemiaaM0
import Derived.MapKept
namespace Go.Abs
variable {E : Env} {k : List KI} {V : VF} {H : List HA}

/-- how an assertion of the caller's is handed to the callee: 0 seen as it is, 1 looked into, 2 lent -/
def ownX (sh : List (Nat × Nat)) (o : Own) : Own := fun b => match o b with
  | .mine m => match sh.findIdx? (fun s => s.2 == 2 && s.1 == m) with
    | some j => .mine j
    | none => if sh.any (fun s => s.2 == 1 && s.1 == m) then .no else .far
  | x => x
def okX (sh : List (Nat × Nat)) : Bool := (List.range sh.length).all fun j => match sh[j]? with
  | some (m, mode) => if mode == 2 then sh.findIdx? (fun s => s.2 == 2 && s.1 == m) == some j else
      if mode == 1 then (sh.findIdx? (fun s => s.2 == 2 && s.1 == m)).isNone else true
  | none => true
def ShowsX (H : List HA) (sh : List (Nat × Nat)) (Hc : List HA) : Prop :=
  sh.length = Hc.length ∧ ∀ (j m mode : Nat) (h : HA), sh[j]? = some (m, mode) → Hc[j]? = some h → ∃ h', H[m]? = some h' ∧ (if mode = 2 then h' = h else Views h' h (mode == 1))
theorem showsX_nil : ShowsX H [] [] := ⟨rfl, fun j m mode h hj => by simp at hj⟩
theorem showsX_view {sh : List (Nat × Nat)} {Hc : List HA} {h' h : HA} (m : Nat) (hm : H[m]? = some h') (hv : Views h' h false) (hr : ShowsX H sh Hc) : ShowsX H ((m, 0) :: sh) (h :: Hc) := by
  refine ⟨by simp [hr.1], fun j m' mode x hj hx => ?_⟩
  cases j with
  | zero => simp at hj hx; obtain ⟨rfl, rfl⟩ := hj; subst hx; exact ⟨h', hm, hv⟩
  | succ j => exact hr.2 j m' mode x (by simpa using hj) (by simpa using hx)
theorem showsX_look {sh : List (Nat × Nat)} {Hc : List HA} {h' h : HA} (m : Nat) (hm : H[m]? = some h') (hv : Views h' h true) (hr : ShowsX H sh Hc) : ShowsX H ((m, 1) :: sh) (h :: Hc) := by
  refine ⟨by simp [hr.1], fun j m' mode x hj hx => ?_⟩
  cases j with
  | zero => simp at hj hx; obtain ⟨rfl, rfl⟩ := hj; subst hx; exact ⟨h', hm, hv⟩
  | succ j => exact hr.2 j m' mode x (by simpa using hj) (by simpa using hx)
theorem showsX_lend {sh : List (Nat × Nat)} {Hc : List HA} {h : HA} (m : Nat) (hm : H[m]? = some h) (hr : ShowsX H sh Hc) : ShowsX H ((m, 2) :: sh) (h :: Hc) := by
  refine ⟨by simp [hr.1], fun j m' mode x hj hx => ?_⟩
  cases j with
  | zero => simp at hj hx; obtain ⟨rfl, rfl⟩ := hj; subst hx; exact ⟨h, hm, rfl⟩
  | succ j => exact hr.2 j m' mode x (by simpa using hj) (by simpa using hx)
/-- what is lent is the caller's no more -/
def lentOut (sh : List (Nat × Nat)) (H : List HA) : List HA := sh.foldl (fun H s => if s.2 == 2 then H.set s.1 HA.emp else H) H
theorem lentOut_length : ∀ (sh : List (Nat × Nat)) (H : List HA), (lentOut sh H).length = H.length
  | [], H => rfl
  | s :: sh, H => by
    unfold lentOut
    rw [List.foldl_cons]
    have := lentOut_length sh (if s.2 == 2 then H.set s.1 HA.emp else H)
    unfold lentOut at this
    rw [this]; split <;> simp
theorem lentOut_get : ∀ (sh : List (Nat × Nat)) (H : List HA) (m : Nat) (h : HA), (lentOut sh H)[m]? = some h → h = HA.emp ∨ (H[m]? = some h ∧ ∀ s ∈ sh, s.2 = 2 → s.1 ≠ m)
  | [], H, m, h, hm => .inr ⟨hm, by simp⟩
  | s :: sh, H, m, h, hm => by
    unfold lentOut at hm
    rw [List.foldl_cons] at hm
    rcases lentOut_get sh _ m h hm with h1 | ⟨h1, h2⟩
    · exact .inl h1
    · by_cases hs : s.2 = 2
      · simp only [hs, beq_self_eq_true, if_true] at h1
        by_cases he : s.1 = m
        · left
          subst he
          rw [List.getElem?_set] at h1
          simp at h1
          exact h1.2.symm
        · rw [List.getElem?_set_ne he] at h1
          exact .inr ⟨h1, fun x hx h3 => by
            rcases List.mem_cons.1 hx with rfl | hx
            · exact he
            · exact h2 x hx h3⟩
      · have : (s.2 == 2) = false := by simpa using hs
        simp only [this] at h1
        exact .inr ⟨h1, fun x hx h3 => by
          rcases List.mem_cons.1 hx with rfl | hx
          · exact absurd h3 hs
          · exact h2 x hx h3⟩

theorem t_callx {P : Program} {d : Option Nat} {ty : TypeId} {pos : String} {af : Array Edge} {g : Option (Nat × Bool)} {fx : Operand} {f : FuncId} {xs : Array Operand} {Ts : Array TypeId} {vs cs : List Value} {Hc : List HA} {post : Post}
    (sh : List (Nat × Nat)) (hfx : V.ev fx = some (.func (.func f) #[] cs.toArray)) (hcall : ∀ args w, (callFunc f args).run P w = .ok (.enter f args) w)
    (hxs : xs.toList.map V.ev = vs.map some) (hc : Meets P f (vs ++ cs) Hc post) (hsh : ShowsX H sh Hc) (hok : okX sh = true)
    (hst : (sh.all fun s => s.2 != 1) = true ∨ ∀ v G, post v G → ∀ g ∈ G, g.Strict) :
    OpT P ⟨d, .call ⟨.value fx, xs, Ts⟩, ty, pos, af, g⟩ V H (fun v' H' => ∃ G, post v' G ∧ H' = lentOut sh H ++ G) := by
  intro ρ w o hf hbd hs
  have hargs : (xs.map ρ) = vs.toArray := by
    apply Array.ext'
    rw [Array.toList_map]
    generalize xs.toList = l at hxs
    clear hc
    induction l generalizing vs with
    | nil => cases vs <;> simp_all
    | cons x r ih =>
      cases vs with
      | nil => simp at hxs
      | cons v vs =>
        simp only [List.map_cons, List.cons.injEq] at hxs ⊢
        exact ⟨hf _ _ hxs.1, ih hxs.2⟩
  have hrun : (execOp ρ ⟨d, .call ⟨.value fx, xs, Ts⟩, ty, pos, af, g⟩).run P w = .ok (.enter f (vs ++ cs).toArray) w := by
    simp [execOp, resolve, invoke, Deferred.ofValue, hf fx _ hfx, hargs, hcall]
  unfold Does
  rw [hrun]
  have hoc : ∀ b, o b = .no → ownX sh o b = .no := fun b hb => by simp [ownX, hb]
  have hall := List.all_eq_true.1 hok
  have hfar : ∀ b, o b = .far → ownX sh o b = .far := fun b hb => by simp [ownX, hb]
  -- who holds a block of the caller's own during the call
  have hmine : ∀ b m, o b = .mine m → (∃ j, sh.findIdx? (fun s => s.2 == 2 && s.1 == m) = some j ∧ ownX sh o b = .mine j) ∨
      (sh.findIdx? (fun s => s.2 == 2 && s.1 == m) = none ∧ ((ownX sh o b = .no ∧ (sh.any fun s => s.2 == 1 && s.1 == m) = true) ∨ ownX sh o b = .far)) := by
    intro b m hb
    simp only [ownX, hb]
    cases hfi : sh.findIdx? (fun s => s.2 == 2 && s.1 == m) with
    | some j => exact .inl ⟨j, rfl, rfl⟩
    | none =>
      right
      refine ⟨rfl, ?_⟩
      simp only []
      split
      · rename_i h; exact .inl ⟨rfl, h⟩
      · exact .inr rfl
  refine (hc w (ownX sh o) (fun b hb => hoc b (hbd b hb)) ?_).mono ?_
  · intro j h hj
    have hlt : j < sh.length := by rw [hsh.1]; exact (List.getElem?_eq_some_iff.1 hj).1
    obtain ⟨⟨m, mode⟩, hsj⟩ : ∃ s, sh[j]? = some s := ⟨_, List.getElem?_eq_getElem hlt⟩
    obtain ⟨h', hm, hv⟩ := hsh.2 j m mode h hsj hj
    have hchk := hall j (by simp [hlt])
    rw [hsj] at hchk
    simp only at hchk
    by_cases h2 : mode = 2
    · subst h2
      simp only [if_true] at hv
      subst hv
      simp only [beq_self_eq_true, if_true, beq_iff_eq] at hchk
      exact h'.keep (Nat.le_refl _) (fun b _ hb => ⟨by simp only [ownX, hb, hchk], rfl⟩) (fun b _ hb => ⟨hoc b hb, rfl⟩) (hs _ h' hm)
    · rw [if_neg h2] at hv
      refine hv w o _ _ j (fun b _ => hoc b) (fun hl b _ hb => ?_) (hs _ h' hm)
      have h1 : mode = 1 := by simpa using hl
      subst h1
      simp only [show ((1 : Nat) == 2) = false from rfl, beq_self_eq_true, if_true, Bool.false_eq_true, if_false, Option.isNone_iff_eq_none] at hchk
      rcases hmine b m hb with ⟨j', hj', _⟩ | ⟨_, h3 | h3⟩
      · rw [hchk] at hj'; cases hj'
      · exact h3.1
      · exfalso
        simp only [ownX, hb] at h3
        rw [hchk] at h3
        simp only at h3
        rw [if_pos (List.any_eq_true.2 ⟨(m, 1), List.mem_of_getElem? hsj, by simp⟩)] at h3
        cases h3
  · rintro e w' ⟨v, G, o', rfl, hp, hb', ht, hs'⟩
    let o2 : Own := fun b => if b < w.heap.size then (match o b with
        | .mine m => if (sh.findIdx? (fun s => s.2 == 2 && s.1 == m)).isSome then (match o' b with | .mine j => .mine (H.length + j) | _ => .no) else .mine m
        | x => x) else match o' b with | .mine j => .mine (H.length + j) | _ => .no
    -- what is not lent is as it was
    have keepb : ∀ b, b < w.heap.size → (∀ m, o b = .mine m → sh.findIdx? (fun s => s.2 == 2 && s.1 == m) = none) → o2 b = o b ∧ w'.heap[b]? = w.heap[b]? := by
      intro b hlt hnl
      cases hob : o b with
      | no => exact ⟨by simp [o2, hlt, hob], (ht.no b hlt (hoc b hob)).2⟩
      | far => exact ⟨by simp [o2, hlt, hob], (ht.far b hlt (hfar b hob)).2⟩
      | mine m =>
        have hn := hnl m hob
        refine ⟨by simp [o2, hlt, hob, hn], ?_⟩
        rcases hmine b m hob with ⟨j, hj, _⟩ | ⟨_, h3 | h3⟩
        · rw [hn] at hj; cases hj
        · exact (ht.no b hlt h3.1).2
        · exact (ht.far b hlt h3).2
    have hG : ∀ j b, o' b = .mine j → o2 b = .mine (H.length + j) := by
      intro j b he
      by_cases hlt : b < w.heap.size
      · cases hob : o b with
        | no => have := (ht.no b hlt (hoc b hob)).1; rw [he] at this; cases this
        | far => have := (ht.far b hlt (hfar b hob)).1; rw [he] at this; cases this
        | mine m =>
          rcases hmine b m hob with ⟨j', hj', _⟩ | ⟨hn, h3 | h3⟩
          · simp [o2, hlt, hob, hj', he]
          · have := (ht.no b hlt h3.1).1; rw [he] at this; cases this
          · have := (ht.far b hlt h3).1; rw [he] at this; cases this
      · simp [o2, hlt, he]
    refine ⟨v, rfl, lentOut sh H ++ G, o2, ⟨G, hp, rfl⟩, ?_, ?_, ?_⟩
    · intro b hle
      have hsz := ht.size
      have : ¬ b < w.heap.size := by omega
      simp [o2, this, hb' b hle]
    · refine ⟨ht.os, ht.tape, ht.output, ht.size, fun b hlt hb => ?_, fun b hlt hb => ?_⟩
      · have := keepb b hlt (fun m hm => by rw [hb] at hm; cases hm)
        exact ⟨this.1.trans hb, this.2⟩
      · have := keepb b hlt (fun m hm => by rw [hb] at hm; cases hm)
        exact ⟨this.1.trans hb, this.2⟩
    · intro j h hj
      rw [List.getElem?_append] at hj
      split at hj
      · rename_i hlt0
        rcases lentOut_get sh H j h hj with rfl | ⟨hj1, hj2⟩
        · trivial
        · refine h.keep ht.size (fun b hlt hb => ?_) (fun b hlt hb => ?_) (hs j h hj1)
          · have := keepb b hlt (fun m hm => by
              rw [hb] at hm; injection hm with hm; subst hm
              rw [List.findIdx?_eq_none_iff]
              intro s hsm
              by_cases h2 : s.2 = 2
              · have := hj2 s hsm h2; simp [this]
              · simp [h2])
            exact ⟨this.1.trans hb, this.2⟩
          · have := keepb b hlt (fun m hm => by rw [hb] at hm; cases hm)
            exact ⟨this.1.trans hb, this.2⟩
      · rename_i hge
        rw [lentOut_length] at hge hj
        have hjj : H.length + (j - H.length) = j := by omega
        have hp' := hs' _ h hj
        rcases hst with hst | hst
        · refine h.keep (Nat.le_refl _) (fun b _ hb => ⟨by rw [hG _ b hb, hjj], rfl⟩) (fun b hlt hb => ⟨?_, rfl⟩) hp'
          by_cases hlt' : b < w.heap.size
          · cases hob : o b with
            | no => simp [o2, hlt', hob]
            | far => have := (ht.far b hlt' (hfar b hob)).1; rw [hb] at this; cases this
            | mine m =>
              rcases hmine b m hob with ⟨j', hj', _⟩ | ⟨hn, h3 | h3⟩
              · simp [o2, hlt', hob, hj', hb]
              · exfalso
                obtain ⟨s, hsm, hs2⟩ := List.any_eq_true.1 h3.2
                have := List.all_eq_true.1 hst s hsm
                simp at this hs2
                exact this hs2.1
              · have := (ht.far b hlt' h3).1; rw [hb] at this; cases this
          · simp [o2, hlt', hb]
        · have hgm : h ∈ G := List.mem_of_getElem? hj
          exact hst v G hp h hgm w' o' _ o2 j (fun b _ hb => by rw [hG _ b hb, hjj]) hp'
end Go.Abs
namespace Go.Abs
set_option linter.unusedSimpArgs false
variable {E : Env} {k : List KI} {V : VF} {H : List HA}
section
variable {P : Program} {d : Option Nat} {ty : TypeId} {pos : String} {af : Array Edge} {g : Option (Nat × Bool)}
theorem y_makeFunc {f : FuncId} {caps : Array Operand} {vs : List Value} (h : caps.toList.map V.ev = vs.map some) : OpY P ⟨d, .makeFunc (.func f) #[] caps, ty, pos, af, g⟩ V H (.func (.func f) #[] vs.toArray) := by
  intro ρ w o hf _ _
  have : caps.map ρ = vs.toArray := by
    apply Array.ext'
    rw [Array.toList_map]
    generalize caps.toList = l at h
    induction l generalizing vs with
    | nil => cases vs <;> simp_all
    | cons x r ih =>
      cases vs with
      | nil => simp at h
      | cons v vs =>
        simp only [List.map_cons, List.cons.injEq] at h ⊢
        exact ⟨hf _ _ h.1, ih h.2⟩
  simp [execOp, Instr.makeFunc, this]

theorem rep_len (n : Nat) (c : List Value) : (List.replicate n c).flatten.length = n * c.length := by
  induction n with
  | zero => simp
  | succ n ih => rw [List.replicate_succ, List.flatten_cons, List.length_append, ih, Nat.succ_mul, Nat.add_comm]
theorem rep_flat (n : Nat) (z : Array Value) (hz : z.size ≠ 0) : (Array.range (n * z.size)).map (z[· % z.size]!) = (List.replicate n z.toList).flatten.toArray := by
  have hl : (List.replicate n z.toList).flatten.length = n * z.size := by rw [rep_len]; simp
  apply Array.ext_getElem?
  intro i
  by_cases hi : i < n * z.size
  · have h1 : i % z.size < z.size := Nat.mod_lt _ (by omega)
    have h2 : i / z.size < n := Nat.div_lt_of_lt_mul (by rw [Nat.mul_comm]; exact hi)
    have := flat_at (es := z.size) (List.replicate n z.toList) (by intro c hc; rw [List.eq_of_mem_replicate hc]; simp) (i / z.size) (i % z.size) z.toList z[i % z.size] (by simp [h2]) (by simp [h1])
    rw [Nat.mul_comm, Nat.div_add_mod] at this
    have e2 : ((List.replicate n z.toList).flatten.toArray)[i]? = some z[i % z.size] := by simpa using this
    rw [e2]
    simp [hi, h1]
  · rw [Array.getElem?_eq_none (by simp; omega), Array.getElem?_eq_none (by rw [List.size_toArray]; omega)]
/-- a new slice of zeros -/
theorem t_makeSlice {T el : TypeId} {z : Value} {ti : TypeInfo} {x y : Operand} {n : Int} {es : Nat} (hu : ∀ w, (underlying T).run P w = .ok (.slice el) w) (hti : ∀ w, (typeInfo el).run P w = .ok ti w) (hes : ti.size = es) (h0 : ∀ w, (zeroValue el).run P w = .ok z w)
    (hzs : z.cells.size = es) (hpos : es ≠ 0) (hx : V.ev x = some (.int .i64 n)) (hy : V.ev y = some (.int .i64 n)) (hn0 : 0 ≤ n) (hn1 : n ≤ 4294967296) (hb : ti.bytes ≤ 16384) :
    OpT P ⟨d, .makeSlice T x y, ty, pos, af, g⟩ V H (fun v' H' => H' = H ++ [row v' es (List.replicate n.toNat z.cells.toList)]) := by
  intro ρ w o hf hbd hs
  have hw : IntKind.i64.wrap n = n := wrap_i64 (by omega) (by omega)
  have hsz : ∀ w, (sizeOf el).run P w = .ok es w := fun w => by simp [sizeOf, hti, hes]
  have hbn : (ti.bytes : Int) * n ≤ 16384 * 4294967296 := by
    have h1 : (ti.bytes : Int) * n ≤ 16384 * n := Int.mul_le_mul_of_nonneg_right (by omega) hn0
    omega
  have hbig : ¬ (281474976710656 : Int) < (ti.bytes : Int) * n := by omega
  have hroom : ¬ roomBytes < n.toNat * ti.bytes := by
    have h1 : n.toNat * ti.bytes ≤ 4294967296 * 16384 := Nat.mul_le_mul (by omega) hb
    have h2 : 4294967296 * 16384 ≤ roomBytes := by unfold roomBytes; decide
    omega
  have hfl := rep_flat n.toNat z.cells (by omega)
  rw [hzs] at hfl
  have hcells : (if n.toNat * es = 0 then (Array.range (n.toNat * es)).map ((#[] : Array Value)[· % (#[] : Array Value).size]!) else (Array.range (n.toNat * es)).map (z.cells[· % z.cells.size]!)) = (List.replicate n.toNat z.cells.toList).flatten.toArray := by
    split
    · rename_i h
      have : n.toNat = 0 := by rcases Nat.mul_eq_zero.1 h with h | h <;> omega
      simp [this]
    · rw [hzs]; exact hfl
  have hrun : (execOp ρ ⟨d, .makeSlice T x y, ty, pos, af, g⟩).run P w = .ok (.value (.slice (some ⟨w.heap.size, 0, none⟩) n.toNat n.toNat)) { w with heap := w.heap.push (.cells (List.replicate n.toNat z.cells.toList).flatten.toArray el) } := by
    by_cases hne : n.toNat * es = 0
    · rw [if_pos hne] at hcells
      simp [execOp, Instr.makeSlice, hf x _ hx, hf y _ hy, hu, asInt, asIntOf, hti, hw, hbig, Int.not_lt.2 hn0, askRoom, hroom, hsz, hne, newRow]
      rw [← hcells, hne]; simp
    · rw [if_neg hne] at hcells
      simp [execOp, Instr.makeSlice, hf x _ hx, hf y _ hy, hu, asInt, asIntOf, hti, hw, hbig, Int.not_lt.2 hn0, askRoom, hroom, hsz, hne, h0, newRow]
      rw [← hcells]
  unfold Does
  rw [hrun]
  have hn' := nw_push w (.cells (List.replicate n.toNat z.cells.toList).flatten.toArray el) w.drawn
  have hall : ∀ c ∈ List.replicate n.toNat z.cells.toList, c.length = es := fun c hc => by rw [List.eq_of_mem_replicate hc, Array.length_toList, hzs]
  have hrow : RowIs { w with heap := w.heap.push (.cells (List.replicate n.toNat z.cells.toList).flatten.toArray el) } (fun b => addOwn o w.heap.size H.length b = .mine H.length) (.slice (some ⟨w.heap.size, 0, none⟩) n.toNat n.toNat) es (List.replicate n.toNat z.cells.toList) := by
    refine .inr ⟨w.heap.size, 0, n.toNat, (List.replicate n.toNat z.cells.toList).flatten.toArray, el, (0, 0), by simp, by simp [addOwn], by simp, by simp, .inl (Nat.le_refl _), ?_, by simp, by unfold maxLen; omega, hall, ?_⟩
    · rw [List.size_toArray, rep_len]; simp [hzs]
    · intro i c hi j x hj
      rw [Nat.zero_add]
      simpa using flat_at _ hall i j c x hi hj
  obtain ⟨h1, h2, h3⟩ := sats_new (g := row (.slice (some ⟨w.heap.size, 0, none⟩) n.toNat n.toNat) es (List.replicate n.toNat z.cells.toList)) hbd hn' hs hrow
  exact ⟨_, _, rfl, h1, h2, h3⟩
theorem map_rep {α : Type} {F : α → List Value} {n : Nat} {c : List Value} {a : α} (h : c = F a) : List.replicate n c = (List.replicate n a).map F := by rw [h, List.map_replicate]
end

/-! maps -/
def mget {κ β : Type} [DecidableEq κ] : List (κ × β) → κ → Option β
  | [], _ => none
  | p :: r, k => if p.1 = k then some p.2 else mget r k
def mput {κ β : Type} [DecidableEq κ] : List (κ × β) → κ → β → List (κ × β)
  | [], k, v => [(k, v)]
  | p :: r, k, v => if p.1 = k then (k, v) :: r else p :: mput r k v
def mfind {κ β : Type} [DecidableEq κ] : List (κ × β) → κ → Nat → Option (Nat × β)
  | [], _, _ => none
  | p :: r, k, i => if p.1 = k then some (i, p.2) else mfind r k (i + 1)
theorem mfind_get {κ β : Type} [DecidableEq κ] : ∀ (l : List (κ × β)) (k : κ) (i : Nat), (mfind l k i).map (·.2) = mget l k
  | [], _, _ => rfl
  | p :: r, k, i => by
    simp only [mfind, mget]
    split
    · rfl
    · exact mfind_get r k (i + 1)
/-- keys whose equality is seen at once -/
structure KeyOk {κ : Type} [DecidableEq κ] (ds : TypeDesc) (K : κ → Value) : Prop where
  same : ∀ a b, Instr.sameNow ds (K a) (K b) = some (decide (a = b))
  bits : ∀ a n, Instr.sameBits n (K a) (K a) = true
  plain : ∀ (P : Program) (t : TypeId), (∀ w, (underlying t).run P w = .ok ds w) → ∀ e a w, (Instr.checkKey e 10000 t (K a)).run P w = .ok () w
theorem key_int (kd : IntKind) : KeyOk (.int kd) (fun n : Int => Value.int kd n) :=
  ⟨fun a b => by simp [Instr.sameNow, beq_dec], fun a n => by cases n <;> simp [Instr.sameBits], fun P t h e a w => by
    rw [show (10000 : Nat) = 9999 + 1 from rfl, Instr.checkKey]
    simp only [Sem.run_bind, h, Result.andThen_ok]; rfl⟩
section
variable {P : Program} {d : Option Nat} {ty : TypeId} {pos : String} {af : Array Edge} {g : Option (Nat × Bool)} {κ β : Type} [DecidableEq κ]
def mcells (K : κ → Value) (G : β → Value) (l : List (κ × β)) : List (Value × Value) := l.map fun p => (K p.1, G p.2)
/-- a map of the call's own -/
def mapis (r : Nat) (kv : List (Value × Value)) : HA :=
  ⟨fun w o k => o r = .mine k ∧ r < w.heap.size ∧ ∃ es clock, w.heap[r]? = some (.map es clock) ∧ es.toList.map (fun e => (e.key, e.val)) = kv, fun hs h1 _ hc =>
    let ⟨e1, e2, es, cl, e3, e4⟩ := hc; let ⟨e5, e6⟩ := h1 r e2 e1; ⟨e5, Nat.lt_of_lt_of_le e2 hs, es, cl, e6.trans e3, e4⟩⟩
def mapV (r : Nat) : Value := .map (some r)
theorem findNow_eq {ds : TypeDesc} {K : κ → Value} {G : β → Value} (hK : KeyOk ds K) (k : κ) : ∀ (es : List MapEntry) (l : List (κ × β)) (i : Nat), es.map (fun e => (e.key, e.val)) = mcells K G l →
    Instr.findNow ds (K k) es i = some ((mfind l k i).map fun p => (p.1, G p.2))
  | [], l, i, h => by
    cases l with
    | nil => rfl
    | cons p r => simp [mcells] at h
  | e :: es, l, i, h => by
    cases l with
    | nil => simp [mcells] at h
    | cons p r =>
      simp only [mcells, List.map_cons, List.cons.injEq, Prod.mk.injEq] at h
      obtain ⟨⟨h1, h2⟩, h3⟩ := h
      simp only [Instr.findNow, mfind, h1, hK.same]
      by_cases hp : p.1 = k
      · subst hp; simp [h2]
      · have : ¬ k = p.1 := fun h => hp h.symm
        simp only [this, decide_false, hp, if_false]
        exact findNow_eq hK k es r (i + 1) h3
theorem run_findKey' {w : World} {t : TypeId} {ds : TypeDesc} {K : κ → Value} {G : β → Value} (hK : KeyOk ds K) (hu : ∀ w, (underlying t).run P w = .ok ds w) {es : List MapEntry} {l : List (κ × β)} (h : es.map (fun e => (e.key, e.val)) = mcells K G l) (k : κ) :
    (Instr.findKey t (K k) es).run P w = .ok ((mfind l k 0).map fun p => (p.1, G p.2)) w := by
  simp [Instr.findKey, hu, findNow_eq hK k es l 0 h]
/-- a look into a map -/
theorem y_lookup {T kt el : TypeId} {ds : TypeDesc} {K : κ → Value} {G : β → Value} {x y : Operand} {r : Nat} {l : List (κ × β)} {k : κ} {d0 : β} (m : Nat) (hK : KeyOk ds K) (hT : ∀ w, (underlying T).run P w = .ok (.map kt el) w) (hk : ∀ w, (underlying kt).run P w = .ok ds w)
    (hz : ∀ w, (zeroValue el).run P w = .ok (G d0) w) (hx : V.ev x = some (mapV r)) (hy : V.ev y = some (K k)) (hm : H[m]? = some (mapis r (mcells K G l))) : OpY P ⟨d, .lookup T x y false, ty, pos, af, g⟩ V H (G ((mget l k).getD d0)) := by
  intro ρ w o hf _ hs
  obtain ⟨_, _, es, cl, e3, e4⟩ := hs m _ hm
  have h1 := run_findKey' (P := P) (w := w) hK hk e4 k
  have h2 : (getObj r).run P w = .ok (.map es cl) w := by simp [getObj, Sem.run, e3]
  have h3 := hK.plain P kt hk es.isEmpty k w
  have hg := mfind_get l k 0
  cases hfi : mfind l k 0 with
  | none =>
    rw [hfi] at h1 hg
    simp at hg h1
    simp [execOp, Instr.lookup, hf x _ hx, hf y _ hy, hT, mapV, h2, h3, h1, hz, ← hg]
  | some p =>
    rw [hfi] at h1 hg
    simp at hg h1
    simp [execOp, Instr.lookup, hf x _ hx, hf y _ hy, hT, mapV, h2, h3, h1, ← hg]
theorem mput_cells {K : κ → Value} {G : β → Value} : ∀ (es : List MapEntry) (l : List (κ × β)) (k : κ) (v : β) (i : Nat), es.map (fun e => (e.key, e.val)) = mcells K G l →
    (match mfind l k i with
      | none => ∀ b, (es ++ [(⟨K k, G v, b⟩ : MapEntry)]).map (fun e => (e.key, e.val)) = mcells K G (mput l k v)
      | some (j, _) => i ≤ j ∧ (es.modify (j - i) fun e => { e with key := K k, val := G v }).map (fun e => (e.key, e.val)) = mcells K G (mput l k v) ∧ ((es[j - i]?).map (·.key)) = some (K k))
  | [], l, k, v, i, h => by
    cases l with
    | nil => simp [mfind, mput, mcells]
    | cons p r => simp [mcells] at h
  | e :: es, l, k, v, i, h => by
    cases l with
    | nil => simp [mcells] at h
    | cons p r =>
      simp only [mcells, List.map_cons, List.cons.injEq, Prod.mk.injEq] at h
      obtain ⟨⟨h1, h2⟩, h3⟩ := h
      by_cases hp : p.1 = k
      · subst hp
        simp only [mfind, mput, if_true]
        refine ⟨Nat.le_refl _, ?_, ?_⟩
        · simp [mcells, h3]
        · simp [h1]
      · have ih := mput_cells (K := K) (G := G) es r k v (i + 1) h3
        simp only [mfind, mput, if_neg hp]
        cases hm : mfind r k (i + 1) with
        | none =>
          rw [hm] at ih
          intro b
          have := ih b
          simp only [mcells] at this ⊢
          simp [h1, h2, ← this]
        | some q =>
          obtain ⟨j, b⟩ := q
          rw [hm] at ih
          obtain ⟨i1, i2, i3⟩ := ih
          have e : j - i = (j - (i + 1)) + 1 := by omega
          refine ⟨by omega, ?_, ?_⟩
          · rw [e, List.modify_succ_cons]
            simp only [List.map_cons, i2]
            simp [mcells, h1, h2]
          · rw [e]; simpa using i3
/-- a store into a map of the call's own -/
theorem t_mapUpdate {T kt el : TypeId} {ds : TypeDesc} {K : κ → Value} {G : β → Value} {x y z : Operand} {r : Nat} {l : List (κ × β)} {k : κ} {v : β} (m : Nat) (hK : KeyOk ds K) (hT : ∀ w, (underlying T).run P w = .ok (.map kt el) w) (hk : ∀ w, (underlying kt).run P w = .ok ds w)
    (hx : V.ev x = some (mapV r)) (hy : V.ev y = some (K k)) (hz : V.ev z = some (G v)) (hm : H[m]? = some (mapis r (mcells K G l))) (ins : Bool) :
    OpT P ⟨d, if ins then .insert T x y z else .mapUpdate T x y z, ty, pos, af, g⟩ V H (fun v' H' => v' = undef ∧ H' = H.set m (mapis r (mcells K G (mput l k v)))) := by
  intro ρ w o hf hbd hs
  obtain ⟨e1, e2, es, cl, e3, e4⟩ := hs m _ hm
  have h1 := run_findKey' (P := P) (w := w) hK hk e4 k
  have h2 : (getObj r).run P w = .ok (.map es cl) w := by simp [getObj, Sem.run, e3]
  have h3 := hK.plain P kt hk false k w
  have hmp := mput_cells (K := K) (G := G) es.toList l k v 0 e4
  obtain ⟨es', cl', hrun, hes⟩ : ∃ es' cl', (Instr.mapUpdate T (mapV r) (K k) (G v)).run P w = .ok () { w with heap := w.heap.setIfInBounds r (.map es' cl') } ∧ es'.toList.map (fun e => (e.key, e.val)) = mcells K G (mput l k v) := by
    cases hfi : mfind l k 0 with
    | none =>
      rw [hfi] at h1 hmp
      refine ⟨es.push ⟨K k, G v, cl⟩, cl + 1, ?_, by simpa using hmp cl⟩
      simp at h1
      simp [Instr.mapUpdate, mapV, hT, h2, h3, h1, setObj, Sem.run, e3]
    | some q =>
      obtain ⟨j, b⟩ := q
      rw [hfi] at h1 hmp
      obtain ⟨_, m1, m2⟩ := hmp
      simp at h1 m1 m2
      refine ⟨es.modify j fun e => { e with key := K k, val := G v }, cl, ?_, by simpa using m1⟩
      obtain ⟨ee, he1, he2⟩ := m2
      have hkey : (Instr.keyThatStays (((es[j]?).map (·.key)).getD (K k)) (K k)).run P w = .ok (K k) w := by
        simp [he1, he2, Instr.keyThatStays, hK.bits]
      simp [Instr.mapUpdate, mapV, hT, h2, h3, h1]
      rw [hkey]
      simp [setObj, Sem.run, e3]
  have hrun2 : (execOp ρ ⟨d, if ins then .insert T x y z else .mapUpdate T x y z, ty, pos, af, g⟩).run P w = .ok .skip { w with heap := w.heap.setIfInBounds r (.map es' cl') } := by
    cases ins <;> simp [execOp, hf x _ hx, hf y _ hy, hf z _ hz, hrun]
  unfold Does
  rw [hrun2]
  have hoth : ∀ b, b ≠ r → (w.heap.setIfInBounds r (.map es' cl'))[b]? = w.heap[b]? := fun b hb => Array.getElem?_setIfInBounds_ne (Ne.symm hb)
  refine ⟨_, o, ⟨rfl, rfl⟩, fun b hb => hbd b (by simpa using hb), ⟨rfl, rfl, rfl, by simp, fun b hlt hb => ⟨hb, hoth b ?_⟩, fun b hlt hb => ⟨hb, hoth b ?_⟩⟩, ?_⟩
  · rintro rfl; rw [e1] at hb; cases hb
  · rintro rfl; rw [e1] at hb; cases hb
  · refine sats_upd (by simp) (fun b hlt hb => ⟨rfl, hoth b ?_⟩) hs ⟨e1, by simpa using e2, es', cl', by simp [e2], hes⟩
    rintro rfl; exact hb e1
/-- a new map -/
theorem t_makeMap {T : TypeId} : OpT P ⟨d, .makeMap T none, ty, pos, af, g⟩ V H (fun v' H' => ∃ r, v' = mapV r ∧ H' = H ++ [mapis r []]) := by
  intro ρ w o hf hbd hs
  have hn := nw_push w (.map #[] 0) w.drawn
  have hrun : (execOp ρ ⟨d, .makeMap T none, ty, pos, af, g⟩).run P w = .ok (.value (mapV w.heap.size)) { w with heap := w.heap.push (.map #[] 0) } := by
    simp [execOp, Instr.makeMap, newObj, mapV, Sem.run]
  unfold Does
  rw [hrun]
  obtain ⟨h1, h2, h3⟩ := sats_new (g := mapis w.heap.size []) hbd hn hs ⟨by simp [addOwn], by simp, #[], 0, by simp, rfl⟩
  exact ⟨_, _, ⟨_, rfl, rfl⟩, h1, h2, h3⟩
end
end Go.Abs
namespace Go.Abs
set_option linter.unusedSimpArgs false
set_option linter.unusedVariables false
variable {E : Env} {k : List KI} {V : VF} {H : List HA}
/-- an assertion that hangs on what nobody writes, and on nothing else -/
def Free (a : HA) : Prop := ∀ w o o' k k', (∀ b, b < w.heap.size → o b = .no → o' b = .no) → a.p w o k → a.p w o' k'
theorem Free.at {a : HA} (h : Free a) : ∀ w o k k', a.p w o k → a.p w o k' := fun w o k k' => h w o o k k' fun _ _ h => h
theorem free_ro {v : Value} {es : Nat} {cells : List (List Value)} : Free (ro v es cells) := fun _ _ _ _ _ ho h => SliceIs.keep (Nat.le_refl _) (fun b hlt hb => ⟨ho b hlt hb, rfl⟩) h
/-- how an element with slices in it is laid into cells: g, the slices' values; S, what is behind them -/
structure NC (α : Type) where
  G : Type
  es : Nat
  F : α → G → List Value
  S : α → G → List HA
  free : ∀ x g, ∀ h ∈ S x g, Free h
  ok : ∀ x g w o k, (∀ h ∈ S x g, h.p w o k) → (F x g).length = es ∧ ∀ u ∈ F x g, u.oneCell' = true

def HsP (L : List HA) (w : World) (o : Own) (k : Nat) : Prop := ∀ h ∈ L, h.p w o k
theorem HsP.keep {L : List HA} {w w' : World} {o o' : Own} {k k' : Nat} (hs : w.heap.size ≤ w'.heap.size) (h1 : ∀ b, b < w.heap.size → o b = .mine k → o' b = .mine k' ∧ w'.heap[b]? = w.heap[b]?)
    (h2 : ∀ b, b < w.heap.size → o b = .no → o' b = .no ∧ w'.heap[b]? = w.heap[b]?) (h : HsP L w o k) : HsP L w' o' k' := fun x hx => x.keep hs h1 h2 (h x hx)
theorem HsP.free {L : List HA} (hL : ∀ h ∈ L, Free h) {w : World} {o o' : Own} {k k' : Nat} (ho : ∀ b, b < w.heap.size → o b = .no → o' b = .no) (h : HsP L w o k) : HsP L w o' k' :=
  fun x hx => hL x hx w o o' k k' ho (h x hx)
section
variable {α : Type} {C : NC α} {v : Value} {l : List α}
def NC.cs (C : NC α) (lg : List (α × C.G)) : List (List Value) := lg.map fun p => C.F p.1 p.2
def nrow (v : Value) (C : NC α) (l : List α) : HA :=
  ⟨fun w o k => ∃ lg : List (α × C.G), l = lg.map (·.1) ∧ RowIs w (fun b => o b = .mine k) v C.es (C.cs lg) ∧ ∀ p ∈ lg, HsP (C.S p.1 p.2) w o k,
   fun hs h1 h2 ⟨lg, e, a, b⟩ => ⟨lg, e, a.keep hs h1, fun p hp => (b p hp).keep hs h1 h2⟩⟩
def nro (v : Value) (C : NC α) (l : List α) : HA :=
  ⟨fun w o k => ∃ lg : List (α × C.G), l = lg.map (·.1) ∧ SliceIs w (fun b => o b = .no) v C.es (C.cs lg) ∧ ∀ p ∈ lg, HsP (C.S p.1 p.2) w o k,
   fun hs h1 h2 ⟨lg, e, a, b⟩ => ⟨lg, e, a.keep hs h2, fun p hp => (b p hp).keep hs h1 h2⟩⟩
theorem NC.cs_len {lg : List (α × C.G)} (h : l = lg.map (·.1)) : (C.cs lg).length = l.length := by rw [h]; simp [NC.cs]
theorem free_nro : Free (nro v C l) := fun w o o' k k' ho ⟨lg, e, a, b⟩ => ⟨lg, e, a.keep (Nat.le_refl _) (fun b hlt hb => ⟨ho b hlt hb, rfl⟩), fun p hp => (b p hp).free (C.free _ _) ho⟩
theorem views_nrow : Views (nrow v C l) (nro v C l) true := fun w o m oc j h1 h2 ⟨lg, e, a, b⟩ =>
  ⟨lg, e, (RowIs.slice (B := fun b => o b = .mine m) (fun _ hb => hb) a).keep (Nat.le_refl _) (fun b hlt hb => ⟨h2 rfl b hlt hb, rfl⟩), fun p hp => (b p hp).free (C.free _ _) h1⟩
theorem nilrowN (C : NC α) : Turn H (H ++ [nrow (.slice none 0 0) C []]) := turn_add fun _ _ _ => ⟨[], rfl, .inl ⟨⟨none, rfl⟩, rfl⟩, fun p hp => by simp at hp⟩
/-- whatever can be read as a slice of n elements -/
structure ReadsN (h : HA) (v : Value) (es n : Nat) : Prop where
  is : ∀ w o k, h.p w o k → ∃ a cap, v = .slice a n cap ∧ n ≤ cap ∧ cap ≤ maxLen ∧ (a = none → cap = 0) ∧ (0 < n → ∃ b off, a = some ⟨b, off, none⟩)
theorem SliceIs.readsN {w : World} {B : Nat → Prop} {es : Nat} {cells : List (List Value)} (h : SliceIs w B v es cells) : ∃ a cap, v = .slice a cells.length cap ∧ cells.length ≤ cap ∧ cap ≤ maxLen ∧ (a = none → cap = 0) ∧ (0 < cells.length → ∃ b off, a = some ⟨b, off, none⟩) := by
  obtain ⟨a, cap, e1, e2, e3, e4, e5⟩ := h
  refine ⟨a, cap, e1, e2, e3, e4, fun h0 => ?_⟩
  obtain ⟨_, b, off, e6, _⟩ := e5 0 _ (List.getElem?_eq_getElem h0)
  exact ⟨b, off, e6⟩
theorem readsN_ro : ReadsN (nro v C l) v C.es l.length := ⟨fun w o k ⟨lg, e, a, _⟩ => by have := a.readsN; rwa [NC.cs_len e] at this⟩
end

/-! facts with a witness -/
def ExT {γ : Type} (H : List HA) (K : γ → List HA) : Prop := ∀ w o, Bnd w o → Sats w o H → ∃ g, Sats w o (H ++ K g)
theorem Rel.ex {γ : Type} {K : γ → List HA} (h : ExT H K) {a : Act} {w : World} (r : Rel E V H a w) : ∃ g, Rel E V (H ++ K g) a w := by
  obtain ⟨h1, h2, h3, o, hb, ht, hs⟩ := r
  obtain ⟨g, hg⟩ := h w o hb hs
  exact ⟨g, h1, h2, h3, o, hb, ht, hg⟩
section
variable {γ : Type} {K : γ → List HA} {ops : Array Oper} {listed : Array Bool} {fuel : Nat} {Hs : List HA}
theorem any_ex (h : ExT H K) (hk : ∀ g, AnyL E ops listed fuel k V (H ++ K g) Hs) : AnyL E ops listed fuel k V H Hs := fun a w r => let ⟨g, r'⟩ := r.ex h; hk g a w r'
end
theorem sats_append {w : World} {o : Own} {K : List HA} (hK : ∀ h ∈ K, Free h) (hs : Sats w o H) (k0 : Nat) (h : HsP K w o k0) : Sats w o (H ++ K) := by
  intro j x hj
  rw [List.getElem?_append] at hj
  split at hj
  · exact hs j x hj
  · have hm := List.mem_of_getElem? hj
    exact (hK x hm).at w o k0 j (h x hm)

/-! an element of a slice that nobody writes -/
def atc (v : Value) (n : Nat) (cs : List Value) : HA :=
  ⟨fun w o _ => ∃ b off len cap, v = .slice (some ⟨b, off, none⟩) len cap ∧ b < w.heap.size ∧ o b = .no ∧ ∀ (j : Nat) (x : Value), cs[j]? = some x → w.cell? ⟨b, off + n + j, none⟩ = some x,
   fun hs _ h2 ⟨b, off, len, cap, e1, e2, e3, e4⟩ => let ⟨f1, f2⟩ := h2 b e2 e3; ⟨b, off, len, cap, e1, Nat.lt_of_lt_of_le e2 hs, f1, fun j x hj => by rw [cell_of_block f2]; exact e4 j x hj⟩⟩
theorem free_atc {v : Value} {n : Nat} {cs : List Value} : Free (atc v n cs) := fun w o o' k k' ho ⟨b, off, len, cap, e1, e2, e3, e4⟩ => ⟨b, off, len, cap, e1, e2, ho b e2 e3, e4⟩
section
variable {α : Type} {C : NC α} {v : Value} {l : List α}
theorem nget {G : Type} {lg : List (α × G)} {i : Nat} {x : α} (hl : l = lg.map (·.1)) (hx : l[i]? = some x) : ∃ g, lg[i]? = some (x, g) := by
  subst hl
  rw [List.getElem?_map] at hx
  cases h : lg[i]? with
  | none => rw [h] at hx; simp at hx
  | some p => rw [h] at hx; simp at hx; exact ⟨p.2, by rw [← hx]⟩
theorem cs_get {lg : List (α × C.G)} {i : Nat} {x : α} {g : C.G} (h : lg[i]? = some (x, g)) : (C.cs lg)[i]? = some (C.F x g) := by simp [NC.cs, h]
/-- what an element's cells hold, and what is behind them -/
theorem exAt {i : Nat} {x : α} (m : Nat) (hm : H[m]? = some (nro v C l)) (hx : l[i]? = some x) : ExT H (fun g : C.G => atc v (i * C.es) (C.F x g) :: C.S x g) := by
  intro w o hb hs
  obtain ⟨lg, e, ha, hS⟩ := hs m _ hm
  obtain ⟨g, hg⟩ := nget e hx
  obtain ⟨a, cap, g1, _, _, _, hc⟩ := id ha
  obtain ⟨_, b, off, f1, f2, f3, f4⟩ := hc i _ (cs_get hg)
  refine ⟨g, sats_append (k0 := m) ?_ hs ?_⟩
  · intro h hh
    rcases List.mem_cons.1 hh with rfl | hh
    · exact free_atc
    · exact C.free _ _ h hh
  · intro h hh
    rcases List.mem_cons.1 hh with rfl | hh
    · exact ⟨b, off, _, _, by rw [g1, f1], f2, f3, f4⟩
    · exact hS _ (List.mem_of_getElem? hg) h hh
section
variable {P : Program} {d : Option Nat} {ty : TypeId} {pos : String} {af : Array Edge} {g : Option (Nat × Bool)}
theorem y_load_at {T : TypeId} {x : Operand} {r : Value} {n j : Nat} {cs : List Value} (m : Nat) (ha : ∀ w, (isAgg T).run P w = .ok false w) (hx : V.ev x = some (elemP v (n + j))) (hm : H[m]? = some (atc v n cs)) (hc : cs[j]? = some r) :
    OpY P ⟨d, .load T x, ty, pos, af, g⟩ V H r := by
  intro ρ w o hf _ hs
  obtain ⟨b, off, len, cap, e1, _, _, e4⟩ := hs m _ hm
  have := e4 j r hc
  subst e1
  simp [execOp, hf x _ hx, Instr.loadAt, Instr.sureAddr, elemP, Value.sbase, loadVar, ha]
  rw [show off + (n + j) = off + n + j by omega]
  simp [this]
theorem y_lenN {Ts : Array TypeId} {T el : TypeId} {x : Operand} {es n : Nat} {h : HA} (m : Nat) (hT : Ts[0]? = some T) (hu : ∀ w, (underlying T).run P w = .ok (.slice el) w)
    (hx : V.ev x = some v) (hm : H[m]? = some h) (hr : ReadsN h v es n) : OpY P ⟨d, .call ⟨.builtin .len, #[x], Ts⟩, ty, pos, af, g⟩ V H (.int .i64 n) := by
  intro ρ w o hf _ hs
  obtain ⟨a, cap, e1, _⟩ := hr.is w o m (hs m h hm)
  subst e1
  simp [execOp, resolve, invoke, builtin, hf x _ hx, run_len hT hu]
theorem y_indexAddrN {T el : TypeId} {x y : Operand} {kd : IntKind} {i : Int} {es n : Nat} {h : HA} (m : Nat) (hu : ∀ w, (underlying T).run P w = .ok (.slice el) w)
    (hz : ∀ w, (sizeOf el).run P w = .ok es w) (hx : V.ev x = some v) (hy : V.ev y = some (.int kd i)) (hm : H[m]? = some h) (hr : ReadsN h v es n) (h0 : 0 ≤ i) (hn : i.toNat < n) :
    OpY P ⟨d, .indexAddr T x y, ty, pos, af, g⟩ V H (elemP v (i.toNat * es)) := by
  intro ρ w o hf _ hs
  obtain ⟨a, cap, e1, _, _, _, e5⟩ := hr.is w o m (hs m h hm)
  obtain ⟨b, off, rfl⟩ := e5 (by omega)
  subst e1
  obtain ⟨q, rfl⟩ : ∃ q : Nat, i = q := ⟨i.toNat, by omega⟩
  simp only [Int.toNat_natCast] at hn ⊢
  have ha : (Addr.add ⟨b, off, none⟩ (q * es)) = ⟨b, off + q * es, none⟩ := by
    unfold Addr.add; split
    · rename_i h0; rw [h0]; rfl
    · rfl
  simp [execOp, hf x _ hx, hf y _ hy, Instr.indexAt, asIntOf, hu, hz, elemP, Value.sbase, ha, hn]
/-! what is behind a list of elements is known -/
def Has (H L : List HA) : Prop := ∀ h ∈ L, (∀ w o k, h.p w o k) ∨ ∃ j : Nat, H[j]? = some h
theorem has_nil : Has H [] := fun h hh => by simp at hh
theorem has_cons {h : HA} {L : List HA} (j : Nat) (hj : H[j]? = some h) (r : Has H L) : Has H (h :: L) := fun x hx => by
  rcases List.mem_cons.1 hx with rfl | hx
  · exact .inr ⟨j, hj⟩
  · exact r x hx
theorem Has.sat {L : List HA} (hL : ∀ h ∈ L, Free h) (h : Has H L) {w : World} {o : Own} (hs : Sats w o H) (k : Nat) : HsP L w o k := fun x hx => by
  rcases h x hx with ht | ⟨j, hj⟩
  · exact ht w o k
  · exact (hL x hx).at w o j k (hs j x hj)
def HasAll (H : List HA) (C : NC α) (lg : List (α × C.G)) : Prop := ∀ p ∈ lg, Has H (C.S p.1 p.2)
theorem hasall_nil : HasAll H C [] := fun p hp => by simp at hp
theorem hasall_cons {x : α} {g : C.G} {lg : List (α × C.G)} (h : Has H (C.S x g)) (r : HasAll H C lg) : HasAll H C ((x, g) :: lg) := fun p hp => by
  rcases List.mem_cons.1 hp with rfl | hp
  · exact h
  · exact r p hp
theorem turn_closeR (m : Nat) (lg : List (α × C.G)) {cells : List (List Value)} (hm : H[m]? = some (row v C.es cells)) (hc : cells = C.cs lg) (hl : l = lg.map (·.1)) (hS : HasAll H C lg) : Turn H (H.set m (nrow v C l)) := by
  intro w o hb hs
  exact ⟨o, hb, Tr.refl w o, sats_upd (Nat.le_refl _) (fun _ _ _ => ⟨rfl, rfl⟩) hs ⟨lg, hl, hc ▸ hs m _ hm, fun p hp => (hS p hp).sat (C.free _ _) hs m⟩⟩
theorem turn_openR (m : Nat) (hm : H[m]? = some (nrow v C l)) : ∀ w o, Sats w o H → ∃ lg : List (α × C.G), l = lg.map (·.1) ∧ Sats w o (H.set m (row v C.es (C.cs lg))) ∧ ∀ p ∈ lg, HsP (C.S p.1 p.2) w o m :=
  fun w o hs => let ⟨lg, e, a, b⟩ := hs m _ hm; ⟨lg, e, sats_upd (Nat.le_refl _) (fun _ _ _ => ⟨rfl, rfl⟩) hs a, b⟩
/-! writes -/
theorem Free.tr {h : HA} (hF : Free h) {w w' : World} {o o' : Own} (ht : Tr w o w' o') (k0 k1 : Nat) (hh : h.p w o k0) : h.p w' o' k1 :=
  (hF.at w' o' 0 k1) (HA.keep h ht.size (k := k0) (k' := 0) (o := fun b => match o b with | .no => .no | _ => .far) (o' := o') (fun b _ hb => by split at hb <;> cases hb) (fun b hlt hb => ht.no b hlt (by
    split at hb
    · assumption
    · cases hb)) (hF w o _ k0 k0 (fun b _ hb => by simp [hb]) hh))
theorem HsP.tr {L : List HA} (hL : ∀ h ∈ L, Free h) {w w' : World} {o o' : Own} (ht : Tr w o w' o') {k0 : Nat} (k1 : Nat) (h : HsP L w o k0) : HsP L w' o' k1 := fun x hx => (hL x hx).tr ht k0 k1 (h x hx)
theorem Does.imp {P : Program} {s : Sem Next} {w : World} {D D' : Value → World → Prop} (h : Does P s w D) (hd : ∀ v w', D v w' → D' v w') : Does P s w D' := by
  unfold Does at h ⊢
  generalize s.run P w = x at *
  cases x with
  | halt x w' => simp at h
  | ok nx w' =>
    cases nx <;> simp only [] at h ⊢
    case value v => exact hd _ _ h
    case skip => exact hd _ _ h
    case enter f args => exact h.mono fun e w'' ⟨v, e1, h1⟩ => ⟨v, e1, hd _ _ h1⟩
/-- what is put behind a slice of such elements -/
structure SrcN (H : List HA) (m2 : Nat) (v2 : Value) (C : NC α) (l2 : List α) : Prop where
  is : ∃ g, H[m2]? = some g ∧ ∀ w o, g.p w o m2 → ∃ (lg2 : List (α × C.G)) (X : HA), l2 = lg2.map (·.1) ∧ X.p w o m2 ∧ Reads X v2 C.es (C.cs lg2) ∧ (∀ p ∈ lg2, HsP (C.S p.1 p.2) w o m2) ∧ ∀ w' o', Tr w o w' o' → X.p w' o' m2 → g.p w' o' m2
theorem srcN_row {v2 : Value} {l2 : List α} (m2 : Nat) (h : H[m2]? = some (nrow v2 C l2)) : SrcN H m2 v2 C l2 :=
  ⟨_, h, fun w o ⟨lg, e, a, b⟩ => ⟨lg, row v2 C.es (C.cs lg), e, a, reads_row, b, fun w' o' ht hX => ⟨lg, e, hX, fun p hp => (b p hp).tr (C.free _ _) ht m2⟩⟩⟩
theorem set_comm2 {m m2 : Nat} (hne : m ≠ m2) (a b c g : HA) (hg : H[m2]? = some g) : (((H.set m a).set m2 b).set m c).set m2 g = H.set m c := by
  apply List.ext_getElem?
  intro j
  have hlt : m2 < H.length := (List.getElem?_eq_some_iff.1 hg).1
  by_cases h2 : m2 = j
  · subst h2
    rw [List.getElem?_set_self (by simpa using hlt), List.getElem?_set_ne hne, hg]
  · rw [List.getElem?_set_ne h2]
    by_cases h1 : m = j
    · subst h1
      by_cases hl : m < H.length
      · rw [List.getElem?_set_self (by simpa using hl), List.getElem?_set_self hl]
      · rw [List.getElem?_eq_none (by simp; omega), List.getElem?_eq_none (by simp; omega)]
    · rw [List.getElem?_set_ne h1, List.getElem?_set_ne h2, List.getElem?_set_ne h1, List.getElem?_set_ne h1]
theorem t_appendN {Ts : Array TypeId} {T T2 el e2 : TypeId} {x y : Operand} {v vy z : Value} {ti : TypeInfo} {l2 : List α} (m m2 : Nat) (hne : m ≠ m2)
    (hT : Ts[0]? = some T) (hu : ∀ w, (underlying T).run P w = .ok (.slice el) w) (hT2 : Ts[1]? = some T2) (hu2 : ∀ w, (underlying T2).run P w = .ok (.slice e2) w)
    (hti : ∀ w, (typeInfo el).run P w = .ok ti w) (hes : ti.size = C.es) (hby : ti.bytes ≠ 0) (hb2 : ti.bytes ≤ 16384) (h0 : ∀ w, (zeroValue el).run P w = .ok z w) (hzs : z.cells.size = C.es)
    (hx : V.ev x = some v) (hm : H[m]? = some (nrow v C l)) (hy : V.ev y = some vy) (hsrc : SrcN H m2 vy C l2) (hlen : l.length + l2.length ≤ 4294967296) :
    OpT P ⟨d, .call ⟨.builtin .append, #[x, y], Ts⟩, ty, pos, af, g⟩ V H (fun v' H' => H' = H.set m (nrow v' C (l ++ l2))) := by
  obtain ⟨g2, hg2, hsrc⟩ := hsrc
  intro ρ w o hf hbd hs
  obtain ⟨lg, e, hs', hS⟩ := turn_openR m hm w o hs
  obtain ⟨lg2, X, f1, f2, f3, f4, f5⟩ := hsrc w o (hs m2 _ hg2)
  have hmlt : m < H.length := (List.getElem?_eq_some_iff.1 hm).1
  have hmlt2 : m2 < H.length := (List.getElem?_eq_some_iff.1 hg2).1
  have hs2 : Sats w o ((H.set m (row v C.es (C.cs lg))).set m2 X) := sats_upd (Nat.le_refl _) (fun b _ _ => ⟨rfl, rfl⟩) hs' f2
  have hl1 := NC.cs_len (C := C) e
  have hl2 := NC.cs_len (C := C) f1
  have hok2 : ∀ c ∈ C.cs lg2, c.length = C.es ∧ ∀ u ∈ c, u.oneCell' = true := by
    intro c hc
    obtain ⟨p, hp, rfl⟩ := List.mem_map.1 hc
    exact C.ok _ _ w o m2 (f4 p hp)
  have hroom := map_room (F := fun _ => ([] : List Value)) (l := l) (m := l2) (b := ti.bytes) hlen hb2
  simp only [List.length_map] at hroom
  have := t_append (d := d) (ty := ty) (pos := pos) (af := af) (g := g) (P := P) (V := V) (H := (H.set m (row v C.es (C.cs lg))).set m2 X) (x := x) (y := y) (es := C.es) (new := C.cs lg2) m hT hu hT2 hu2 (.inr ⟨_, rfl⟩) hti hes hby h0 hzs hx
    (by rw [List.getElem?_set_ne (Ne.symm hne), List.getElem?_set_self hmlt]) hy (src_reads m2 (by rw [List.getElem?_set_self (by simpa using hmlt2)]) f3 hok2) (by rw [hl1, hl2]; exact hroom) (by rw [hl1, hl2]; unfold maxLen; omega)
  refine (this ρ w o hf hbd hs2).imp ?_
  rintro v' w' ⟨H', o', rfl, hb', ht, hs3⟩
  refine ⟨_, o', rfl, hb', ht, ?_⟩
  have h4 := sats_upd (w := w') (w' := w') (o := o') (o' := o') (m := m2) (g := g2) (Nat.le_refl _) (fun b _ _ => ⟨rfl, rfl⟩) hs3 (f5 w' o' ht (hs3 m2 _ (by rw [List.getElem?_set_ne hne, List.getElem?_set_self (by simpa using hmlt2)])))
  rw [set_comm2 hne _ _ _ _ hg2] at h4
  have h5 := sats_upd (w := w') (w' := w') (o := o') (o' := o') (m := m) (g := nrow v' C (l ++ l2)) (Nat.le_refl _) (fun b _ _ => ⟨rfl, rfl⟩) h4 ⟨lg ++ lg2, by rw [e, f1, List.map_append], by
      have h6 := h4 m _ (List.getElem?_set_self hmlt)
      have e6 : C.cs (lg ++ lg2) = C.cs lg ++ C.cs lg2 := by simp [NC.cs]
      rw [e6]; exact h6, fun p hp => by
      rcases List.mem_append.1 hp with hp | hp
      · exact (hS p hp).tr (C.free _ _) ht m
      · exact (f4 p hp).tr (C.free _ _) ht m⟩
  rwa [List.set_set] at h5
end
end

/-! a slice's value lies in one cell -/
theorem ro_one {v : Value} {es : Nat} {cells : List (List Value)} {w : World} {o : Own} {k : Nat} (h : (ro v es cells).p w o k) : v.oneCell' = true := by
  obtain ⟨a, cap, e, _⟩ := h; rw [e]; rfl
theorem nro_one {α : Type} {C : NC α} {v : Value} {l : List α} {w : World} {o : Own} {k : Nat} (h : (nro v C l).p w o k) : v.oneCell' = true := by
  obtain ⟨lg, _, ⟨a, cap, e, _⟩, _⟩ := h; rw [e]; rfl
section
variable {ops : Array Oper} {listed : Array Bool} {fuel : Nat} {Hs : List HA} {h : HA} {v : Value} {es n : Nat}
end
section
variable {P : Program} {d : Option Nat} {ty : TypeId} {pos : String} {af : Array Edge} {g : Option (Nat × Bool)}
end
theorem any_cut2 {ops : Array Oper} {Hs : List HA} {fuel0 : Nat} {listed0 : Array Bool} (listed : Array Bool) (fuel : Nat) (S : Type) (Vi : S → List (Nat × Value)) (Hi : S → List HA)
    (h2 : ∀ s, AnyL E ops listed fuel k (VF.of (Vi s)) (Hi s) Hs) (h1 : (∀ s, AnyL E ops listed fuel k (VF.of (Vi s)) (Hi s) Hs) → AnyL E ops listed0 fuel0 k V H Hs) : AnyL E ops listed0 fuel0 k V H Hs := h1 h2
theorem any_weak2 {ops : Array Oper} {Hs : List HA} {fuel : Nat} {listed listed' : Array Bool} {l : List (Nat × Value)} {G : List HA} (h : AnyL E ops listed' fuel k (VF.of l) G Hs) (is : List Nat) (hL : listed = listed') (hl : ∀ x ∈ l, V x.1 = some x.2) (hn : is.Nodup) (hG : Picks is H G) :
    AnyL E ops listed fuel k V H Hs := any_weak l is G hL hl hn hG h
theorem oy {ops : Array Oper} {op : Oper} {rest : List Oper} {v : Value} (hw : op.guard = none) (hd : inB E.n op.dst = true) (h : OpY E.P op V H v)
    (hk : Ops E ops rest k (V.put op.dst v) H) : Ops E ops (op :: rest) k V H := ops_y (wn hw) hd h hk
theorem ot {ops : Array Oper} {op : Oper} {rest : List Oper} {post : Post} (hw : op.guard = none) (hd : inB E.n op.dst = true) (h : OpT E.P op V H post)
    (hk : ∀ v H', post v H' → Ops E ops rest k (V.put op.dst v) H') : Ops E ops (op :: rest) k V H := ops_t (wn hw) hd h hk
theorem sy {ops : Array Oper} {op : Oper} {rest : List Oper} {v : Value} (hw : op.guard = none) (hd : inB E.n op.dst = true) (h : OpY E.P op V H v)
    (hk : StillL E ops rest k (V.put op.dst v) H) : StillL E ops (op :: rest) k V H := still_y (wn hw) hd h hk
theorem ss {H Hs : List HA} {h : HA} (r : Sub H Hs) : Sub (h :: H) (h :: Hs) := sub_same r
theorem se {H Hs : List HA} {h : HA} (r : Sub H Hs) : Sub (h :: H) (HA.emp :: Hs) := sub_emp r
theorem sn {H : List HA} : Sub H [] := sub_nil
theorem turn_dup (m : Nat) {h : HA} (hF : Free h) (hm : H[m]? = some h) : Turn H (H ++ [h]) := turn_add fun w o hs => hF.at w o m _ (hs m h hm)
end Go.Abs
namespace Go.Abs
set_option linter.unusedSimpArgs false
set_option linter.unusedVariables false
variable {E : Env} {k : List KI} {V : VF} {H : List HA}
def SrcP (P : Program) (H : List HA) (v : Value) (es : Nat) (new : List (List Value)) : Prop :=
  (∀ c ∈ new, c.length = es ∧ ∀ u ∈ c, u.oneCell' = true) ∧
  ∀ w o, Sats w o H → (Builtin.lenOf v).run P w = .ok new.length w ∧ ∀ q, q ≤ new.length → (Builtin.firstCells es q v).run P w = .ok (new.take q).flatten.toArray w
theorem run_firstCellsK {P : Program} {w : World} {B : Nat → Prop} {v : Value} {es : Nat} {cells : List (List Value)} (h : SliceIs w B v es cells) :
    (Builtin.lenOf v).run P w = .ok cells.length w ∧ ∀ q, q ≤ cells.length → (Builtin.firstCells es q v).run P w = .ok (cells.take q).flatten.toArray w := by
  refine ⟨(run_firstCells h).1, fun q hq => ?_⟩
  obtain ⟨a, cap, e1, e2, e3, e4, e5⟩ := id h
  have hl : (cells.take q).length = q := by rw [List.length_take]; omega
  have h' : SliceIs w B (.slice a (cells.take q).length cap) es (cells.take q) := ⟨a, cap, rfl, by omega, e3, e4, fun i c hi => e5 i c (by
    rw [List.getElem?_take] at hi
    split at hi
    · exact hi
    · cases hi)⟩
  have := (run_firstCells (P := P) h').2
  rw [hl] at this
  rw [e1]
  cases a <;> simpa [Builtin.firstCells] using this
theorem srcp_reads {P : Program} {v : Value} {es : Nat} {new : List (List Value)} {h : HA} (m : Nat) (hm : H[m]? = some h) (hr : Reads h v es new)
    (hc : ∀ c ∈ new, c.length = es ∧ ∀ u ∈ c, u.oneCell' = true) : SrcP P H v es new := ⟨hc, fun w o hs => run_firstCellsK (hr.is w o m (hs m h hm))⟩
theorem srcp_sub {P : Program} {v : Value} {es l r : Nat} {cells : List (List Value)} {h : HA} (m : Nat) (hm : H[m]? = some h) (hr : Reads h v es cells) (h1 : l ≤ r) (h2 : r ≤ cells.length)
    (hc : ∀ c ∈ cells, c.length = es ∧ ∀ u ∈ c, u.oneCell' = true) : SrcP P H (subS v es l r) es ((cells.take r).drop l) :=
  ⟨fun c hc' => hc c (List.mem_of_mem_take (List.mem_of_mem_drop hc')), fun w o hs => by
    have h3 := hr.is w o m (hs m h hm)
    obtain ⟨a, cap, e1, e2, e3, e4, e5⟩ := id h3
    subst e1
    exact run_firstCellsK (SliceIs.sub h3 h1 h2 (by omega) (Nat.le_refl _))⟩
def cpy {α : Type} (l : List α) (a b : Nat) (new : List α) : List α := l.take a ++ (new.take (b - a) ++ l.drop (a + min new.length (b - a)))
theorem cpy_map {α : Type} {F : α → List Value} (l : List α) (a b : Nat) (new : List α) : cpy (l.map F) a b (new.map F) = (cpy l a b new).map F := by simp [cpy, List.map_take, List.map_drop]
def PartOf (v : Value) (es n : Nat) (vd : Value) (a b : Nat) : Prop := vd = subS v es a b ∨ (vd = v ∧ a = 0 ∧ b = n)
theorem part_sub {v : Value} {es n a b : Nat} : PartOf v es n (subS v es a b) a b := .inl rfl
theorem part_all {v : Value} {es n : Nat} : PartOf v es n v 0 n := .inr ⟨rfl, rfl, rfl⟩
section
variable {P : Program} {d : Option Nat} {ty : TypeId} {pos : String} {af : Array Edge} {g : Option (Nat × Bool)}
theorem flat_take {es : Nat} {new : List (List Value)} (hn : ∀ c ∈ new, c.length = es) (q : Nat) (hq : q ≤ new.length) : (new.take q).flatten.length = q * es := by
  rw [flat_len (new.take q) (fun c hc => hn c (List.mem_of_mem_take hc)), List.length_take, Nat.min_eq_left hq]
theorem t_copy {Ts : Array TypeId} {T el : TypeId} {es a b : Nat} {x y : Operand} {v vd vy : Value} {cells new : List (List Value)} (m : Nat)
    (hT : Ts[0]? = some T) (hu : ∀ w, (underlying T).run P w = .ok (.slice el) w) (hsz : ∀ w, (sizeOf el).run P w = .ok es w)
    (hx : V.ev x = some vd) (hd : PartOf v es cells.length vd a b) (ha : a ≤ b) (hb : b ≤ cells.length) (hm : H[m]? = some (row v es cells)) (hy : V.ev y = some vy) (hsrc : SrcP P H vy es new) :
    OpT P ⟨d, .call ⟨.builtin .copy, #[x, y], Ts⟩, ty, pos, af, g⟩ V H (fun v' H' => v' = .int .i64 (min new.length (b - a) : Nat) ∧ H' = H.set m (row v es (cpy cells a b new))) := by
  intro ρ w o hf hbd hs
  obtain ⟨hnew, hsrc⟩ := hsrc
  obtain ⟨hn1, hn2⟩ := hsrc w o hs
  obtain ⟨q, hq⟩ : ∃ q, q = min new.length (b - a) := ⟨_, rfl⟩
  have hq1 : q ≤ new.length := by omega
  have hn3 := hn2 q hq1
  have hnu : ∀ c ∈ new, c.length = es := fun c hc => (hnew c hc).1
  have htk : new.take (b - a) = new.take q := by
    rw [hq]; by_cases h : new.length ≤ b - a
    · rw [Nat.min_eq_left h, List.take_of_length_le h, List.take_length]
    · rw [Nat.min_eq_right (by omega)]
  have hcp : cpy cells a b new = cells.take a ++ (new.take q ++ cells.drop (a + q)) := by rw [cpy, htk, ← hq]
  rw [← hq, hcp]
  have hone : ∀ u ∈ (new.take q).flatten, u.oneCell' = true := fun u hu => by
    obtain ⟨c, hc, hu⟩ := List.mem_flatten.1 hu
    exact (hnew c (List.mem_of_mem_take hc)).2 u hu
  -- what dst is
  obtain ⟨base, cap', hvd, hbase⟩ : ∃ base cap', vd = .slice base (b - a) cap' ∧ (0 < b - a → ∀ b0 off cap, v = .slice (some ⟨b0, off, none⟩) cells.length cap → cells.length ≤ cap → base = some ⟨b0, off + a * es, none⟩) := by
    have hsl : ∃ a0 cap, v = .slice a0 cells.length cap := by
      rcases hs m _ hm with ⟨⟨a', r1⟩, r2⟩ | ⟨b0, off, cap, arr, T', fz, r1, _⟩
      · exact ⟨a', 0, by rw [r1, r2]; rfl⟩
      · exact ⟨_, cap, r1⟩
    obtain ⟨a0, cap, hv⟩ := hsl
    rcases hd with rfl | ⟨rfl, rfl, rfl⟩
    · rw [hv]
      refine ⟨_, _, rfl, fun h0 b0 off cap1 hv1 hc1 => ?_⟩
      simp only [Value.slice.injEq] at hv1
      obtain ⟨rfl, _, rfl⟩ := hv1
      rw [if_neg (by omega)]
      have hadd : (Addr.add ⟨b0, off, none⟩ (a * es)) = ⟨b0, off + a * es, none⟩ := by unfold Addr.add; split <;> simp_all
      simp [hadd]
    · rw [hv]
      refine ⟨a0, cap, by simp, fun h0 b0 off cap1 hv1 hc1 => ?_⟩
      simp only [Value.slice.injEq] at hv1
      rw [hv1.1]; simp
  have hrest : ∀ w', (match base with | some ad => storeCells ad (new.take q).flatten | none => pure ()).run P w = .ok () w' → (execOp ρ ⟨d, .call ⟨.builtin .copy, #[x, y], Ts⟩, ty, pos, af, g⟩).run P w = .ok (.value (.int .i64 (q : Nat))) w' := by
    intro w' hw'
    rw [hvd] at hx
    have hmin : Nat.min new.length (b - a) = q := by rw [hq]
    cases base with
    | none =>
      simp at hw'
      subst hw'
      simp [execOp, resolve, invoke, builtin, hf x _ hx, hf y _ hy, Builtin.copy_, hT, hu, hsz, hn1, hmin, hn3, goInt]
    | some ad =>
      simp only at hw'
      simp [execOp, resolve, invoke, builtin, hf x _ hx, hf y _ hy, Builtin.copy_, hT, hu, hsz, hn1, hmin, hn3, goInt, hw']
  by_cases h0 : q = 0
  · -- nothing goes over
    have hr := hrest w (by rw [h0]; cases base <;> simp [storeCells_nil])
    unfold Does
    rw [hr]
    refine ⟨_, o, ⟨by simp, rfl⟩, hbd, Tr.refl w o, sats_upd (Nat.le_refl _) (fun _ _ _ => ⟨rfl, rfl⟩) hs ?_⟩
    have : cells.take a ++ (new.take q ++ cells.drop (a + q)) = cells := by rw [h0]; simp
    rw [this]
    exact hs m _ hm
  · rcases hs m _ hm with ⟨_, r2⟩ | ⟨b0, off, cap, arr, T', fz, r1, r2, r3, r4, r5, r6, r7, r8, r9, r10⟩
    · rw [r2] at hb; simp at hb; omega
    obtain rfl := hbase (by omega) b0 off cap r1 r7
    have hfl := flat_take hnu q hq1
    have hroom : off + a * es + (new.take q).flatten.length ≤ arr.size := by
      rw [hfl, r6, Nat.add_assoc, ← Nat.add_mul]
      exact Nat.add_le_add_left (Nat.mul_le_mul_right _ (by omega)) _
    obtain ⟨w', h2, h3⟩ := run_storeCells (P := P) (new.take q).flatten 0 arr w r4 r5 (off := off + a * es) (by simpa using hroom) hone
    have hr := hrest w' h2
    unfold Does
    rw [hr]
    refine ⟨_, o, ⟨rfl, rfl⟩, fun b' hb' => hbd b' (by rw [h3.size] at hb'; exact hb'), ⟨h3.os, h3.tape, h3.output, by rw [h3.size]; exact Nat.le_refl _, fun b' hlt hb' => ⟨hb', h3.other b' ?_⟩, fun b' hlt hb' => ⟨hb', h3.other b' ?_⟩⟩, ?_⟩
    · rintro rfl; rw [r2] at hb'; cases hb'
    · rintro rfl; rw [r2] at hb'; cases hb'
    · have hlen : (cells.take a ++ (new.take q ++ cells.drop (a + q))).length = cells.length := by simp; omega
      refine sats_upd (by rw [h3.size]; exact Nat.le_refl _) (fun b' hlt hb' => ⟨rfl, h3.other b' ?_⟩) hs (.inr ⟨b0, off, cap, _, T', fz, by rw [hlen]; exact r1, r2, by rw [h3.size]; exact r3, h3.here, by rw [size_writeAt]; exact r5, by rw [size_writeAt]; exact r6,
        by rw [hlen]; exact r7, r8, ?_, ?_⟩)
      · rintro rfl; exact hb' r2
      · intro c hc
        rcases List.mem_append.1 hc with hc | hc
        · exact r9 c (List.mem_of_mem_take hc)
        · rcases List.mem_append.1 hc with hc | hc
          · exact hnu c (List.mem_of_mem_take hc)
          · exact r9 c (List.mem_of_mem_drop hc)
      · intro i c hi j x' hj
        rw [Nat.add_zero, get_writeAt _ _ _ _ hroom, hfl]
        have hcl : c.length = es := by
          have hc := List.mem_of_getElem? hi
          rcases List.mem_append.1 hc with hc | hc
          · exact r9 c (List.mem_of_mem_take hc)
          · rcases List.mem_append.1 hc with hc | hc
            · exact hnu c (List.mem_of_mem_take hc)
            · exact r9 c (List.mem_of_mem_drop hc)
        have hjl : j < es := by have := (List.getElem?_eq_some_iff.1 hj).1; omega
        have hml : ∀ p r : Nat, p + 1 ≤ r → p * es + es ≤ r * es := fun p r h => by rw [← Nat.succ_mul]; exact Nat.mul_le_mul_right _ h
        have haq : (a + q) * es = a * es + q * es := Nat.add_mul _ _ _
        by_cases c1 : i < a
        · rw [List.getElem?_append_left (by simp; omega), List.getElem?_take, if_pos c1] at hi
          have := hml i a c1
          rw [if_neg (by omega)]
          exact r10 i c hi j x' hj
        · rw [List.getElem?_append_right (by simp; omega)] at hi
          have e1 : (cells.take a).length = a := by simp; omega
          rw [e1] at hi
          by_cases c2 : i - a < q
          · rw [List.getElem?_append_left (by simp; omega)] at hi
            have h1 := hml i (a + q) (by omega)
            have h2' : a * es ≤ i * es := Nat.mul_le_mul_right _ (by omega)
            rw [if_pos (by omega)]
            have := flat_at (new.take q) (fun c hc => hnu c (List.mem_of_mem_take hc)) (i - a) j c x' hi hj
            rw [← this]
            congr 1
            rw [Nat.sub_mul]; omega
          · rw [List.getElem?_append_right (by simp; omega)] at hi
            have e2 : (new.take q).length = q := by simp; omega
            rw [e2, List.getElem?_drop, show a + q + (i - a - q) = i by omega] at hi
            have h1 : (a + q) * es ≤ i * es := Nat.mul_le_mul_right _ (by omega)
            rw [if_neg (by omega)]
            exact r10 i c hi j x' hj
/-- told in plain lists -/
theorem t_copyL {α : Type} {F : α → List Value} {l ns : List α} {Ts : Array TypeId} {T el : TypeId} {es a b b2 : Nat} {x y : Operand} {v vd vy : Value} {new : List (List Value)} (m : Nat)
    (hT : Ts[0]? = some T) (hu : ∀ w, (underlying T).run P w = .ok (.slice el) w) (hsz : ∀ w, (sizeOf el).run P w = .ok es w)
    (hx : V.ev x = some vd) (hd : PartOf v es (l.map F).length vd a b) (ha : a ≤ b) (hb : b ≤ l.length) (hm : H[m]? = some (row v es (l.map F))) (hy : V.ev y = some vy) (hsrc : SrcP P H vy es new) (hn : new = ns.map F) (hb2 : b = b2) :
    OpT P ⟨d, .call ⟨.builtin .copy, #[x, y], Ts⟩, ty, pos, af, g⟩ V H (fun v' H' => v' = .int .i64 (min ns.length (b2 - a) : Nat) ∧ H' = H.set m (row v es ((cpy l a b2 ns).map F))) := by
  subst hb2
  have h := t_copy (d := d) (ty := ty) (pos := pos) (af := af) (g := g) m hT hu hsz hx hd ha (by simpa using hb) hm hy hsrc
  subst hn
  rw [cpy_map, List.length_map] at h
  exact h
end
end Go.Abs
namespace Go.Abs
variable {E : Env} {k : List KI} {V : VF} {H : List HA}

theorem bltF {a b : Nat} (h : b ≤ a) : Nat.blt a b = false := by
  cases e : Nat.blt a b with
  | false => rfl
  | true => simp at e; omega
theorem bltT {a b : Nat} (h : a < b) : Nat.blt a b = true := by simpa using h
theorem alloc_old (w : World) (o : Obj) (k : Nat) (h : k < w.heap.size) : (w.alloc o).heap[k]? = w.heap[k]? := by
  simp only [World.alloc, Array.getElem?_push]
  rw [if_neg (by omega)]
/-- the loop's record is ours -/
def loopHA (l : Nat) (r : Loop) : HA :=
  ⟨fun w o k => o l = .mine k ∧ l < w.heap.size ∧ w.heap[l]? = some (.loop r), fun hs h1 _ ⟨a, b, c⟩ => ⟨(h1 _ b a).1, Nat.lt_of_lt_of_le b hs, (h1 _ b a).2.trans c⟩⟩
/-- a loop's record and what its body works upon, as one -/
def packHA {G : Type} (l : Nat) (r : Loop) (Hs : G → List HA) : HA :=
  ⟨fun w o k => ∃ g o', Bnd w o' ∧ Sats w o' (loopHA l r :: Hs g) ∧ (∀ b j, o' b = .mine j → o b = .mine k ∧ b < w.heap.size) ∧ (∀ b, b < w.heap.size → o' b = .no → o b = .no),
   fun {w w' o o2 k k2} hs h1 h2 ⟨g, o', hb, hS, hm, hn⟩ => by
    refine ⟨g, fun b => bif Nat.blt b w.heap.size then o' b else (bif Nat.blt b w'.heap.size then .far else .no), ?_, ?_, ?_, ?_⟩
    · intro b hb'
      have e1 : Nat.blt b w.heap.size = false := bltF (Nat.le_trans hs hb')
      have e2 : Nat.blt b w'.heap.size = false := bltF hb'
      simp [e1, e2]
    · intro j h hj
      refine h.keep hs (fun b hlt ho => ?_) (fun b hlt ho => ?_) (hS j h hj)
      · have e1 : Nat.blt b w.heap.size = true := bltT hlt
        exact ⟨by simp [e1, ho], (h1 b hlt (hm b j ho).1).2⟩
      · have e1 : Nat.blt b w.heap.size = true := bltT hlt
        exact ⟨by simp [e1, ho], (h2 b hlt (hn b hlt ho)).2⟩
    · intro b j ho
      cases e1 : Nat.blt b w.heap.size with
      | true =>
        simp only [e1, cond_true] at ho
        have := hm b j ho
        exact ⟨(h1 b this.2 this.1).1, Nat.lt_of_lt_of_le this.2 hs⟩
      | false =>
        simp only [e1, cond_false] at ho
        cases e2 : Nat.blt b w'.heap.size <;> simp [e2] at ho
    · intro b hlt ho
      cases e1 : Nat.blt b w.heap.size with
      | true =>
        simp only [e1, cond_true] at ho
        have hlt' : b < w.heap.size := by simpa using e1
        exact (h2 b hlt' (hn b hlt' ho)).1
      | false =>
        have e2 : Nat.blt b w'.heap.size = true := by simpa using hlt
        simp [e1, e2] at ho⟩

/-- all but what k holds stays -/
def TrK (w : World) (o : Own) (k : Nat) (w' : World) (o' : Own) : Prop :=
  Tr w o w' o' ∧ ∀ b j, b < w.heap.size → j ≠ k → o b = .mine j → o' b = .mine j ∧ w'.heap[b]? = w.heap[b]?
/-- a call of yield in what A says -/
def YMeets (P : Program) (l : Nat) (args : List Value) (A : HA) (b : Bool) (A' : HA) : Prop :=
  ∀ w o k, Bnd w o → A.p w o k → ∃ f tmps assign body, (Instr.yield l args.toArray).run P w = .ok (.round l f tmps assign body) w ∧
    RoundIn (FR none) 0 P l f tmps assign body w (fun e w'' => e = .returned (.bool b) ∧ ∃ o', Bnd w'' o' ∧ TrK w o k w'' o' ∧ A'.p w'' o' k)

theorem t_yield {P : Program} {d : Option Nat} {ty : TypeId} {pos : String} {af : Array Edge} {g : Option (Nat × Bool)} {fx : Operand} {xs : Array Operand} {Ts : Array TypeId} {vs : List Value} {A A' : HA} {b : Bool} {l : Nat}
    (m : Nat) (hfx : V.ev fx = some (.func (.yield l) #[] #[])) (hxs : xs.toList.map V.ev = vs.map some) (hm : H[m]? = some A) (hy : YMeets P l vs A b A') :
    OpR P ⟨d, .call ⟨.value fx, xs, Ts⟩, ty, pos, af, g⟩ V H (fun v' H' => v' = .bool b ∧ H' = H.set m A') := by
  refine ⟨fun c h => by simp at h, fun ρ w o hf hb hs => ?_⟩
  have hargs : (xs.map ρ) = vs.toArray := by
    apply Array.ext'
    rw [Array.toList_map]
    generalize xs.toList = l at hxs
    clear hy
    induction l generalizing vs with
    | nil => cases vs <;> simp_all
    | cons x r ih =>
      cases vs with
      | nil => simp at hxs
      | cons v vs =>
        simp only [List.map_cons, List.cons.injEq] at hxs ⊢
        exact ⟨hf _ _ hxs.1, ih hxs.2⟩
  obtain ⟨f, tmps, assign, body, e, hr⟩ := hy w o m hb (hs m A hm)
  refine ⟨l, f, tmps, assign, body, ?_, hr.mono ?_⟩
  · simp [execOp, resolve, invoke, Deferred.ofValue, hf fx _ hfx, hargs]
    exact e
  · rintro e w'' ⟨rfl, o', hb', ht, ha⟩
    refine ⟨_, rfl, H.set m A', o', ⟨rfl, rfl⟩, hb', ht.1, ?_⟩
    intro j h hj
    by_cases hjm : m = j
    · subst hjm
      rw [List.getElem?_set] at hj
      simp at hj
      obtain ⟨_, rfl⟩ := hj
      exact ha
    · rw [List.getElem?_set_ne hjm] at hj
      exact h.keep ht.1.size (fun b hlt ho => ht.2 b j hlt (Ne.symm hjm) ho) (fun b hlt ho => ht.1.no b hlt ho) (hs j h hj)

/-- the record of a loop's statement -/
def recOf (fn : FuncId) (tmps : Array Value) (ps : Array Tmp) (assign body : Code) (D : Nat) (st : LoopState) (pe : Option Code) : Loop :=
  { state := st, pending := pe, fn := fn, tmps := tmps, params := ps, assign := assign, body := body, defers := D }
/-- what the statement holds between two rounds: i: the jump by which a round has left -/
def loopYA {S G : Type} (l : Nat) (rc : LoopState → Option Code → Loop) (jumps : List Code) (Hs : S → G → List HA) : S × Option Nat → HA
  | (s, none) => packHA l (rc .ready none) (Hs s)
  | (s, some i) => packHA l (rc .done (jumps[i]?)) (Hs s)
def yieldOf {S X : Type} (step : S → X → Option (S × Option Nat)) (σ : S × Option Nat) (x : X) : Option ((S × Option Nat) × Bool) :=
  match σ.2 with
  | none => (step σ.1 x).map fun r => (r, r.2.isNone)
  | some _ => none
def roundOK : Exit → Option Nat → List Code → Prop
  | .normal, none, _ => True
  | .ret, some i, jumps => jumps[i]? = some .ret
  | .exit id, some i, jumps => jumps[i]? = some (.exit id)
  | _, _, _ => False
def EnvA (P : Program) (n : Nat) (w0 : World) (o0 : Own) (l : Nat) : Env :=
  { P := P, n := n, w0 := w0, o0 := o0, r := some l, B := fun _ _ _ => False, np := fun _ _ _ _ _ h => h, no := fun _ _ h => h }
def EnvR {G : Type} (P : Program) (n : Nat) (w0 : World) (o0 : Own) (l : Nat) (Hs : G → List HA) (j : Option Nat) (jumps : List Code) : Env :=
  { P := P, n := n, w0 := w0, o0 := o0, r := some l, B := fun e _ w => roundOK e j jumps ∧ ∃ g o, Bnd w o ∧ Tr w0 o0 w o ∧ Sats w o (Hs g),
    np := fun _ _ _ _ _ h => by cases j <;> exact h.1.elim, no := fun _ _ h => by cases j <;> exact h.1.elim }
def isK (k : Nat) : Ow → Bool
  | .mine j => j == k
  | _ => false
/-- who owns what behind a round -/
def backO (l k n : Nat) (o o3 : Own) : Own := fun b => if b = l then .mine k else if b < n ∧ isK k (o b) = false then o b else (match o3 b with | .mine _ => .mine k | x => x)
def upO (l : Nat) (o3 : Own) : Own := fun b => if b = l then .mine 0 else (match o3 b with | .mine i => .mine (i + 1) | x => x)
def downO (o : Own) : Own := fun b => match o b with | .mine 0 => .far | .mine (i + 1) => .mine i | x => x

theorem round_meets {S X G : Type} {P : Program} {n l : Nat} {fn : FuncId} {tmps : Array Value} {ps : Array Tmp} {assign body : Code} {D : Nat} {jumps : List Code} {Hs : S → G → List HA} {step : S → X → Option (S × Option Nat)}
    (enc : X → List Value) (V0 : X → VF) (hsz : tmps.size = n) (hps : ∀ x, (enc x).length = ps.size)
    (hV0 : ∀ x, Agree (V0 x) { tmps := (ps.zip (enc x).toArray).foldl (fun tmps (t, a) => tmps.setIfInBounds t a) tmps, defers := [] })
    (hround : ∀ s x s' j, step s x = some (s', j) → ∀ g w0 o0 (L : Act → World → Prop),
      (∀ V1 H1, (∀ w1 o1, Run (EnvR P n w1 o1 l (Hs s') j jumps) body [] V1 H1) → ∀ a w, Rel (EnvA P n w0 o0 l) V1 H1 a w → L a w) → Run (EnvA P n w0 o0 l) assign [.loop L] (V0 x) (Hs s g))
    (σ : S × Option Nat) (x : X) (r : (S × Option Nat) × Bool) (h : yieldOf step σ x = some r) :
    YMeets P l (enc x) (loopYA l (recOf fn tmps ps assign body D) jumps Hs σ) r.2 (loopYA l (recOf fn tmps ps assign body D) jumps Hs r.1) := by
  obtain ⟨s, i0⟩ := σ
  cases i0 with
  | some i => simp [yieldOf] at h
  | none =>
  simp only [yieldOf, Option.map_eq_some_iff] at h
  obtain ⟨⟨s', j⟩, hst, rfl⟩ := h
  rintro w o k hb ⟨g, o', hb', hS, hm, hn⟩
  obtain ⟨hl1, hl2, hl3⟩ := hS 0 _ rfl
  refine ⟨fn, _, assign, body, run_yield hl3 (by simp [recOf, hps]), roundIn_of_wpIn (F := FR none) trivial ?_⟩
  have hdo : ∀ b, downO o' b = .far → ∀ j, o' b = .mine j → j = 0 := by
    intro b hb j hj
    cases j with
    | zero => rfl
    | succ j => simp [downO, hj] at hb
  have hszf : ∀ (ts : List (Tmp × Value)) (t0 : Array Value), (ts.foldl (fun tmps (t, a) => tmps.setIfInBounds t a) t0).size = t0.size := by
    intro ts
    induction ts with
    | nil => intro t0; rfl
    | cons p r ih => intro t0; rw [List.foldl_cons, ih]; simp
  refine hround s x s' j hst g w (downO o') _ ?_ _ w ⟨?_, fun _ => rfl, hV0 x, downO o', ?_, ⟨Tr.refl _ _, Marked.nil _ _ _⟩, ?_⟩
  · -- the body
    rintro V1 H1 hbody a1 w1 ⟨hz1, hd1, ha1, o1, hb1, ht1, hs1⟩
    have hd1 : a1.defers = [] := hd1 rfl
    have ht1 : Tr w (downO o') w1 o1 := ht1.tr
    obtain ⟨hf1, hh1⟩ := ht1.far l hl2 (by simp [downO, hl1])
    have hl1' : w1.heap[l]? = some (.loop (recOf fn tmps ps assign body D .ready none)) := hh1.trans hl3
    have hlt1 : l < w1.heap.size := Nat.lt_of_lt_of_le hl2 ht1.size
    refine ⟨_, run_beginRound hl1' rfl, ?_⟩
    obtain ⟨w2, hw2⟩ : ∃ w2, w1.putObj l (.loop { recOf fn tmps ps assign body D .ready none with state := .busy }) = w2 := ⟨_, rfl⟩
    rw [hw2]
    have hsz2 : w2.heap.size = w1.heap.size := by rw [← hw2]; exact World.putObj_size
    have hl2' : w2.heap[l]? = some (.loop { recOf fn tmps ps assign body D .ready none with state := .busy }) := by rw [← hw2]; exact World.putObj_heap_same hlt1
    have hot2 : ∀ b, b ≠ l → w2.heap[b]? = w1.heap[b]? := fun b hb => by rw [← hw2]; exact World.putObj_heap_other hb
    refine wpIn_mono (hbody w2 o1 a1 w2 ⟨hz1, fun _ => hd1, ha1, o1, fun b hb => hb1 b (by omega), ⟨Tr.refl _ _, by rw [hd1]; exact Marked.nil _ _ _⟩, ?_⟩) ?_
    · intro j h hj
      exact h.keep (Nat.le_of_eq hsz2.symm) (fun b _ ho => ⟨ho, hot2 b (by rintro rfl; rw [hf1] at ho; cases ho)⟩) (fun b _ ho => ⟨ho, hot2 b (by rintro rfl; rw [hf1] at ho; cases ho)⟩) (hs1 j h hj)
    · rintro e a3 w3 ⟨hok, g', o3, hb3, ht3, hs3⟩
      obtain ⟨hf3, hh3⟩ := ht3.far l (by omega) hf1
      have hl3' : w3.heap[l]? = some (.loop { recOf fn tmps ps assign body D .ready none with state := .busy }) := hh3.trans hl2'
      have hlt3 : l < w3.heap.size := Nat.lt_of_lt_of_le (by omega) ht3.size
      -- what lay apart from the round
      have apart : ∀ b, b < w.heap.size → isK k (o b) = false → b ≠ l ∧ o3 b = o' b ∧ (o' b = .no ∨ o' b = .far) ∧ w3.heap[b]? = w.heap[b]? := by
        intro b hlt hk
        have hne : ∀ i, o' b ≠ .mine i := fun i hi => by
          have := (hm b i hi).1
          rw [this] at hk; simp [isK] at hk
        have hbl : b ≠ l := by rintro rfl; exact hne 0 hl1
        cases ho : o' b with
        | mine i => exact absurd ho (hne i)
        | no =>
          obtain ⟨e1, e2⟩ := ht1.no b hlt (by simp [downO, ho])
          obtain ⟨e3, e4⟩ := ht3.no b (by have := ht1.size; omega) e1
          exact ⟨hbl, e3, .inl rfl, e4.trans ((hot2 b hbl).trans e2)⟩
        | far =>
          obtain ⟨e1, e2⟩ := ht1.far b hlt (by simp [downO, ho])
          obtain ⟨e3, e4⟩ := ht3.far b (by have := ht1.size; omega) e1
          exact ⟨hbl, e3, .inr rfl, e4.trans ((hot2 b hbl).trans e2)⟩
      have fin : ∀ (jump : Option Code) (st : LoopState), (∃ o2, Bnd (w3.putObj l (.loop (recOf fn tmps ps assign body D st jump))) o2 ∧ TrK w o k (w3.putObj l (.loop (recOf fn tmps ps assign body D st jump))) o2 ∧
          (packHA l (recOf fn tmps ps assign body D st jump) (Hs s')).p (w3.putObj l (.loop (recOf fn tmps ps assign body D st jump))) o2 k) := by
        intro jump st
        obtain ⟨w4, hw4⟩ : ∃ w4, w3.putObj l (.loop (recOf fn tmps ps assign body D st jump)) = w4 := ⟨_, rfl⟩
        rw [hw4]
        have hsz4 : w4.heap.size = w3.heap.size := by rw [← hw4]; exact World.putObj_size
        have hl4 : w4.heap[l]? = some (.loop (recOf fn tmps ps assign body D st jump)) := by rw [← hw4]; exact World.putObj_heap_same hlt3
        have hot4 : ∀ b, b ≠ l → w4.heap[b]? = w3.heap[b]? := fun b hb => by rw [← hw4]; exact World.putObj_heap_other hb
        have hsz : w.heap.size ≤ w4.heap.size := by have := ht1.size; have := ht3.size; omega
        have hkeep : ∀ b, b < w.heap.size → isK k (o b) = false → backO l k w.heap.size o o3 b = o b ∧ w4.heap[b]? = w.heap[b]? := by
          intro b hlt hk
          obtain ⟨h1, _, _, h4⟩ := apart b hlt hk
          exact ⟨by simp [backO, h1, hlt, hk], (hot4 b h1).trans h4⟩
        refine ⟨backO l k w.heap.size o o3, ?_, ⟨⟨?_, ?_, ?_, hsz, ?_, ?_⟩, ?_⟩, g', upO l o3, ?_, ?_, ?_, ?_⟩
        · intro b hb
          have h1 : b ≠ l := by omega
          have h2 : ¬ (b < w.heap.size) := by omega
          simp [backO, h1, h2, hb3 b (by omega)]
        · rw [← hw4]; exact ht3.os.trans (by rw [← hw2]; exact ht1.os)
        · rw [← hw4]; exact ht3.tape.trans (by rw [← hw2]; exact ht1.tape)
        · rw [← hw4]; exact ht3.output.trans (by rw [← hw2]; exact ht1.output)
        · intro b hlt ho
          obtain ⟨e1, e2⟩ := hkeep b hlt (by simp [isK, ho])
          exact ⟨e1.trans ho, e2⟩
        · intro b hlt ho
          obtain ⟨e1, e2⟩ := hkeep b hlt (by simp [isK, ho])
          exact ⟨e1.trans ho, e2⟩
        · intro b i hlt hi ho
          obtain ⟨e1, e2⟩ := hkeep b hlt (by simp [isK, ho, hi])
          exact ⟨e1.trans ho, e2⟩
        · intro b hb
          have h1 : b ≠ l := by omega
          simp [upO, h1, hb3 b (by omega)]
        · intro i h hi
          cases i with
          | zero => simp at hi; subst hi; exact ⟨by simp [upO], by omega, hl4⟩
          | succ i =>
            refine h.keep (Nat.le_of_eq hsz4.symm) (fun b _ ho => ?_) (fun b _ ho => ?_) (hs3 i h (by simpa using hi))
            · have hbl : b ≠ l := by rintro rfl; rw [hf3] at ho; cases ho
              exact ⟨by simp [upO, hbl, ho], hot4 b hbl⟩
            · have hbl : b ≠ l := by rintro rfl; rw [hf3] at ho; cases ho
              exact ⟨by simp [upO, hbl, ho], hot4 b hbl⟩
        · intro b i ho
          by_cases hbl : b = l
          · subst hbl; exact ⟨by simp [backO], by omega⟩
          · simp only [upO, hbl, if_false] at ho
            cases h3 : o3 b with
            | no => simp [h3] at ho
            | far => simp [h3] at ho
            | mine q =>
              have hb : b < w3.heap.size := by
                apply Nat.lt_of_not_le
                intro hle
                rw [hb3 b hle] at h3; cases h3
              refine ⟨?_, by omega⟩
              have : ¬ (b < w.heap.size ∧ isK k (o b) = false) := fun ⟨h1, h2⟩ => by
                obtain ⟨_, e1, e2, _⟩ := apart b h1 h2
                rw [h3] at e1
                rcases e2 with e2 | e2 <;> rw [e2] at e1 <;> cases e1
              simp [backO, hbl, this, h3]
        · intro b hlt ho
          by_cases hbl : b = l
          · subst hbl; simp [upO] at ho
          · simp only [upO, hbl, if_false] at ho
            have h3 : o3 b = .no := by
              cases h3 : o3 b with
              | no => rfl
              | far => simp [h3] at ho
              | mine q => simp [h3] at ho
            by_cases hc : b < w.heap.size ∧ isK k (o b) = false
            · obtain ⟨_, e1, e2, _⟩ := apart b hc.1 hc.2
              rw [h3] at e1
              unfold backO
              rw [if_neg hbl, if_pos hc]
              exact hn b hc.1 e1.symm
            · unfold backO
              rw [if_neg hbl, if_neg hc, h3]
      cases e with
      | normal =>
        cases j with
        | some i => exact hok.elim
        | none => obtain ⟨o2, f1, f2, f3⟩ := fin none .ready; exact ⟨_, _, run_endRound none hl3', rfl, o2, f1, f2, f3⟩
      | ret =>
        cases j with
        | none => exact hok.elim
        | some i =>
          replace hok : jumps[i]? = some .ret := hok
          obtain ⟨o2, f1, f2, f3⟩ := fin (some .ret) .done
          exact ⟨_, _, run_endRound (some .ret) hl3', rfl, o2, f1, f2, by simp only [loopYA, hok]; exact f3⟩
      | exit id =>
        cases j with
        | none => exact hok.elim
        | some i =>
          replace hok : jumps[i]? = some (.exit id) := hok
          obtain ⟨o2, f1, f2, f3⟩ := fin (some (.exit id)) .done
          exact ⟨_, _, run_endRound (some (.exit id)) hl3', rfl, o2, f1, f2, by simp only [loopYA, hok]; exact f3⟩
      | goto t => cases j <;> exact hok.elim
      | panic c => cases j <;> exact hok.elim
      | outgrown => cases j <;> exact hok.elim
  · rw [← Array.foldl_toList]; exact (hszf _ _).trans hsz
  · intro b hb; simp [downO, hb' b hb]
  · intro i h hi
    refine h.keep (Nat.le_refl _) (fun b _ ho => ⟨by simp [downO, ho], rfl⟩) (fun b _ ho => ⟨by simp [downO, ho], rfl⟩) (hS (i + 1) h (by simpa using hi))

/-! a round's ends -/
section
variable {S G : Type} {P : Program} {n l : Nat} {w0 : World} {o0 : Own} {Hs : G → List HA} {jumps : List Code} {j : Option Nat} {body : Code}
theorem goes_round {w0' : World} {o0' : Own} {L : Act → World → Prop} (hL : ∀ V1 H1, (∀ w1 o1, Run (EnvR P n w1 o1 l Hs j jumps) body [] V1 H1) → ∀ a w, Rel (EnvA P n w0' o0' l) V1 H1 a w → L a w)
    (h : ∀ w1 o1, Run (EnvR P n w1 o1 l Hs j jumps) body [] V H) : Goes (EnvA P n w0' o0' l) (.loop L :: k) V H := fun a w r => hL V H h a w r
theorem round_go (g : G) (is : List Nat) (hn : is.Nodup) (hG : Picks is H (Hs g)) (hj : j = none) : Goes (EnvR P n w0 o0 l Hs j jumps) [] V H := by
  subst hj
  intro a w r
  obtain ⟨_, _, _, o, hb, ht, hs⟩ := r.pick hn hG
  exact ⟨trivial, g, o, hb, ht.tr, hs⟩
theorem Qof_exitN (id : Nat) : ∀ (k : List KI) (a : Act) (w : World), exitK id k = none → E.B (.exit id) a w → Qof E k (.exit id) a w
  | [], _, _, _, q => q
  | .code y :: k, a, w, h, q => Qof_exitN id k a w h q
  | .scope :: k, a, w, h, q => Qof_exitN id k a w h q
  | .loop L :: k, a, w, h, q => Qof_exitN id k a w h q
  | .blk id' :: k, a, w, h, q => by
    unfold exitK at h
    show Exit.inBlock id' (Qof E k) (.exit id) a w
    by_cases e : id = id'
    · subst e; simp at h
    · have : Nat.beq id id' = false := beqF e
      rw [this] at h
      simp only [Exit.inBlock, e, if_false]
      exact Qof_exitN id k a w h q
theorem round_exit {id : Nat} (i : Nat) (g : G) (is : List Nat) (hk : exitK id k = none) (hn : is.Nodup) (hG : Picks is H (Hs g)) (hj : j = some i) (hi : jumps[i]? = some (.exit id)) :
    Run (EnvR P n w0 o0 l Hs j jumps) (.exit id) k V H := by
  subst hj
  intro a w r
  obtain ⟨_, _, _, o, hb, ht, hs⟩ := r.pick hn hG
  exact wpIn_exit (Qof_exitN id k a w hk ⟨hi, g, o, hb, ht.tr, hs⟩)
end

/-! the statement -/
def VF.sets : List (Nat × Value) → VF → VF
  | [], V => V
  | (p, v) :: r, V => VF.sets r (V.set p v)
theorem agree_sets {n : Nat} : ∀ (ps : List Nat) (vs : List Value) (V : VF) (t : Array Value), t.size = n → (ps.all fun p => Nat.blt p n) = true → Agree V { tmps := t, defers := [] } →
    Agree (VF.sets (ps.zip vs) V) { tmps := (ps.zip vs).foldl (fun tmps (t, a) => tmps.setIfInBounds t a) t, defers := [] }
  | [], vs, V, t, _, _, h => by simpa [VF.sets] using h
  | p :: ps, [], V, t, _, _, h => by simpa [VF.sets] using h
  | p :: ps, v :: vs, V, t, hz, hp, h => by
    simp only [List.all_cons, Bool.and_eq_true] at hp
    have hlt : p < t.size := by rw [hz]; simpa using hp.1
    refine agree_sets ps vs (V.set p v) (t.setIfInBounds p v) (by simp [hz]) hp.2 ?_
    intro u x hx
    rcases VF.set_eq hx with ⟨rfl, rfl⟩ | ⟨hne, hx⟩
    · simp [hlt]
    · have := h u x hx
      simp only [Array.getD_eq_getD_getElem?] at this ⊢
      rw [Array.getElem?_setIfInBounds_ne (by omega)]
      exact this
theorem lentOut_snoc : ∀ (sh : List (Nat × Nat)) (H : List HA), lentOut sh (H ++ [HA.emp]) = lentOut sh H ++ [HA.emp]
  | [], H => rfl
  | s :: sh, H => by
    unfold lentOut
    rw [List.foldl_cons, List.foldl_cons]
    have key : (if s.2 == 2 then (H ++ [HA.emp]).set s.1 HA.emp else H ++ [HA.emp]) = (if s.2 == 2 then H.set s.1 HA.emp else H) ++ [HA.emp] := by
      split
      · by_cases hlt : s.1 < H.length
        · rw [List.set_append_left _ _ hlt]
        · rw [List.set_append_right _ _ (by omega), List.set_eq_of_length_le (l := H) (by omega)]
          by_cases h0 : s.1 - H.length = 0
          · rw [h0]; rfl
          · rw [List.set_eq_of_length_le (by simp; omega)]
      · rfl
    rw [key]
    exact lentOut_snoc sh _

theorem sats_add' {w : World} {o : Own} {H : List HA} {g : HA} (hs : Sats w o H) (hg : g.p w o H.length) : Sats w o (H ++ [g]) := by
  intro j h hj
  rw [List.getElem?_append] at hj
  split at hj
  · exact hs j h hj
  · rename_i hlt
    have h0 : j - H.length = 0 := by
      by_cases h0 : j - H.length = 0
      · exact h0
      · rw [show j - H.length = (j - H.length - 1) + 1 by omega] at hj; simp at hj
    rw [h0] at hj
    simp at hj
    subst hj
    obtain rfl : j = H.length := by omega
    exact hg
theorem run_rangeFunc {S X G : Type} {gx : Operand} {gf : FuncId} {caps : List Value} {ps : List Tmp} {assign body : Code} {jumps : List Code} {Hs : S → G → List HA} {step : S → X → Option (S × Option Nat)} (enc : X → List Value)
    (s0 : S) (g0 : G) (is : List Nat) (sh : List (Nat × Nat)) {Hc Gr : List HA} {r : S × Option Nat}
    (hE : E.r = none) (hg : V.ev gx = some (.func (.func gf) #[] caps.toArray)) (hcall : ∀ args w, (callFunc gf args).run E.P w = .ok (.enter gf args) w)
    (hps : ∀ x, (enc x).length = ps.length) (hpn : (ps.all fun p => Nat.blt p E.n) = true) (hn : is.Nodup) (hG : Picks is H (Hs s0 g0))
    (hround : ∀ l s x s' j, step s x = some (s', j) → ∀ g w0 o0 (L : Act → World → Prop),
      (∀ V1 H1, (∀ w1 o1, Run (EnvR E.P E.n w1 o1 l (Hs s') j jumps) body [] V1 H1) → ∀ a w, Rel (EnvA E.P E.n w0 o0 l) V1 H1 a w → L a w) → Run (EnvA E.P E.n w0 o0 l) assign [.loop L] (VF.sets (ps.zip (enc x)) V) (Hs s g))
    (hit : ∀ (l : Nat) (A : S × Option Nat → HA), (∀ σ x r, yieldOf step σ x = some r → YMeets E.P l (enc x) (A σ) r.2 (A r.1)) →
      Meets E.P gf (.func (.yield l) #[] #[] :: caps) (A (s0, none) :: Hc) (fun v G => v = .tuple #[] ∧ G = A r :: Gr))
    (hsh : ShowsX (lentOut (is.map fun i => (i, 2)) H) sh Hc) (hok : okX ((H.length, 2) :: sh) = true) (hst : (sh.all fun s => s.2 != 1) = true)
    (hgo : r.2 = none → ∀ g, Goes E k V (lentOut sh (lentOut (is.map fun i => (i, 2)) H) ++ Gr ++ Hs r.1 g))
    (hjump : ∀ i, r.2 = some i → ∃ c, jumps[i]? = some c ∧ ∀ g, Run E c k V (lentOut sh (lentOut (is.map fun i => (i, 2)) H) ++ Gr ++ Hs r.1 g)) :
    Run E (.rangeFunc gx ps.toArray assign body) k V H := by
  intro a w rel
  have hag := rel.2.2.1.ev hg
  refine wpIn_rangeFunc ?_
  intro fn _
  obtain ⟨hz, hd, ha, o, hb, ht, hs⟩ := rel
  show ∃ l mark w₁ d w₁' f args w₂, (Instr.enterLoop fn a.tmps ps.toArray assign body E.r).run E.P w = .ok (l, mark) w₁ ∧ _
  rw [hE]
  obtain ⟨H1, hH1⟩ : ∃ H1, lentOut (is.map fun i => (i, 2)) H = H1 := ⟨_, rfl⟩
  rw [hH1] at hsh hgo hjump
  obtain ⟨rc, hrc⟩ : ∃ rc, recOf fn a.tmps ps.toArray assign body w.heap.size = rc := ⟨_, rfl⟩
  obtain ⟨W1, hW1⟩ : ∃ W1, (w.alloc (.deferred (some []))).alloc (.loop (rc .ready none)) = W1 := ⟨_, rfl⟩
  have hlen1 : H1.length = H.length := by rw [← hH1]; exact lentOut_length _ _
  have hsize : W1.heap.size = w.heap.size + 2 := by rw [← hW1]; simp
  have hL1 : W1.heap[w.heap.size + 1]? = some (.loop (rc .ready none)) := by
    rw [← hW1]; have := World.alloc_heap_new (w.alloc (.deferred (some []))) (.loop (rc .ready none)); rwa [World.size_alloc] at this
  have hK1 : W1.heap[w.heap.size]? = some (.deferred (some [])) := by
    rw [← hW1]; exact (alloc_old _ _ _ (by simp)).trans (World.alloc_heap_new w _)
  have hO1 : ∀ b, b < w.heap.size → W1.heap[b]? = w.heap[b]? := fun b hb => by
    rw [← hW1]; exact (alloc_old _ _ _ (by simp; omega)).trans (alloc_old _ _ _ hb)
  obtain ⟨l, hl⟩ : ∃ l, w.heap.size + 1 = l := ⟨_, rfl⟩
  rw [hl] at hL1
  refine ⟨l, [{ target := .collected w.heap.size, args := #[] }], W1, { target := .fn (.func gf) caps.toArray, args := #[.func (.yield l) #[] #[]] }, W1, gf, (.func (.yield l) #[] #[] :: caps).toArray, W1, ?_, ?_, fun _ _ => trivial, ?_, (fun h => nomatch h), ?_⟩
  · rw [← hW1, ← hrc, ← hl]; exact run_enterLoop_outer _ _ _ _ _
  · simp only [resolve, hag]
    simp [go_sem]
  · simp [invoke, go_sem, hcall]
  · -- who owns what while the function runs
    obtain ⟨o1, ho1⟩ : ∃ o1 : Own, (fun b => if b = w.heap.size then .far else if b = l then .mine H.length else (match o b with | .mine j => if j ∈ is then .mine H.length else .mine j | x => x)) = o1 := ⟨_, rfl⟩
    obtain ⟨op0, hop0⟩ : ∃ op0 : Own, (fun b => if b = w.heap.size then .far else if b = l then .mine 0 else (match o b with | .mine j => if j ∈ is then .mine (is.idxOf j + 1) else .far | x => x)) = op0 := ⟨_, rfl⟩
    have o1D : o1 w.heap.size = .far := by rw [← ho1]; simp
    have o1l : o1 l = .mine H.length := by rw [← ho1]; have : ¬ l = w.heap.size := by omega
                                           simp [this]
    have o1o : ∀ b, b < w.heap.size → o1 b = (match o b with | .mine j => if j ∈ is then .mine H.length else .mine j | x => x) := fun b hb => by
      have h1 : ¬ b = w.heap.size := by omega
      have h2 : ¬ b = l := by omega
      rw [← ho1]; simp [h1, h2]
    have op0o : ∀ b, b < w.heap.size → op0 b = (match o b with | .mine j => if j ∈ is then .mine (is.idxOf j + 1) else .far | x => x) := fun b hb => by
      have h1 : ¬ b = w.heap.size := by omega
      have h2 : ¬ b = l := by omega
      rw [← hop0]; simp [h1, h2]
    have op0l : op0 l = .mine 0 := by rw [← hop0]; have : ¬ l = w.heap.size := by omega
                                      simp [this]
    have op0D : op0 w.heap.size = .far := by rw [← hop0]; simp
    have hb1 : Bnd W1 o1 := fun b hb' => by
      have h1 : ¬ b = w.heap.size := by omega
      have h2 : ¬ b = l := by omega
      rw [← ho1]; simp [h1, h2, hb b (by omega)]
    have hbp0 : Bnd W1 op0 := fun b hb' => by
      have h1 : ¬ b = w.heap.size := by omega
      have h2 : ¬ b = l := by omega
      rw [← hop0]; simp [h1, h2, hb b (by omega)]
    have ht1 : Tr w o W1 o1 := ⟨by rw [← hW1]; rfl, by rw [← hW1]; rfl, by rw [← hW1]; rfl, by omega,
      fun b hlt ho => ⟨by rw [o1o b hlt, ho], hO1 b hlt⟩, fun b hlt ho => ⟨by rw [o1o b hlt, ho], hO1 b hlt⟩⟩
    obtain ⟨A, hA⟩ : ∃ A, loopYA l rc jumps Hs = A := ⟨_, rfl⟩
    have hA0 : (A (s0, none)).p W1 o1 H.length := by
      rw [← hA]
      refine ⟨g0, op0, hbp0, ?_, ?_, ?_⟩
      · intro i h hi
        cases i with
        | zero => simp at hi; subst hi; exact ⟨op0l, by omega, hL1⟩
        | succ i =>
          obtain ⟨q, hq, hHq⟩ := Picks.get hG i h (by simpa using hi)
          have hm : q ∈ is := List.mem_of_getElem? hq
          obtain ⟨hlt, he⟩ := List.getElem?_eq_some_iff.1 hq
          have hidx : is.idxOf q = i := by subst he; exact hn.idxOf_getElem i hlt
          exact h.keep (w := w) (o := o) (k := q) (by omega) (fun b hlt ho => ⟨by rw [op0o b hlt, ho]; simp [hm, hidx], hO1 b hlt⟩) (fun b hlt ho => ⟨by rw [op0o b hlt, ho], hO1 b hlt⟩) (hs q h hHq)
      · intro b j ho
        by_cases h1 : b = l
        · subst h1; exact ⟨o1l, by omega⟩
        · by_cases h2 : b = w.heap.size
          · subst h2; rw [op0D] at ho; cases ho
          · by_cases h3 : b < w.heap.size
            · rw [op0o b h3] at ho
              rw [o1o b h3]
              cases h4 : o b with
              | no => simp [h4] at ho
              | far => simp [h4] at ho
              | mine q =>
                simp only [h4] at ho
                split at ho
                · rename_i hm; exact ⟨by simp [hm], by omega⟩
                · cases ho
            · rw [hbp0 b (by omega)] at ho; cases ho
      · intro b hlt ho
        by_cases h1 : b = l
        · subst h1; rw [op0l] at ho; cases ho
        · by_cases h2 : b = w.heap.size
          · subst h2; rw [op0D] at ho; cases ho
          · have h3 : b < w.heap.size := by omega
            rw [op0o b h3] at ho
            rw [o1o b h3]
            cases h4 : o b with
            | no => rfl
            | far => simp [h4] at ho
            | mine q =>
              simp only [h4] at ho
              split at ho <;> cases ho
    have hs1 : Sats W1 o1 (H1 ++ [A (s0, none)]) := by
      refine sats_add' ?_ (by rw [hlen1]; exact hA0)
      intro j h hj
      rcases lentOut_get (is.map fun i => (i, 2)) H j h (by rw [hH1]; exact hj) with rfl | ⟨h1, h2⟩
      · trivial
      · have hj' : j ∉ is := fun hm => h2 (j, 2) (List.mem_map.2 ⟨j, hm, rfl⟩) rfl rfl
        exact h.keep (w := w) (o := o) (k := j) (by omega) (fun b hlt ho => ⟨by rw [o1o b hlt, ho]; simp [hj'], hO1 b hlt⟩) (fun b hlt ho => ⟨by rw [o1o b hlt, ho], hO1 b hlt⟩) (hs j h h1)
    -- the function's contract
    have hM := hit l A (fun σ x r hr => by
      rw [← hA, ← hrc]
      refine round_meets enc (fun x => VF.sets (ps.zip (enc x)) V) hz (fun x => by simp [hps]) (fun x => ?_) (hround l) σ x r hr
      have := agree_sets ps (enc x) V a.tmps hz hpn ha
      rw [← Array.foldl_toList]
      simpa using this)
    have hshX : ShowsX (H1 ++ [A (s0, none)]) ((H.length, 2) :: sh) (A (s0, none) :: Hc) := by
      refine showsX_lend H.length (by rw [← hlen1]; simp) ⟨hsh.1, fun j m mode x hj hx => ?_⟩
      obtain ⟨h', e1, e2⟩ := hsh.2 j m mode x hj hx
      exact ⟨h', by rw [List.getElem?_append_left (List.getElem?_eq_some_iff.1 e1).1]; exact e1, e2⟩
    have hop := t_callx (P := E.P) (V := fun _ => none) (d := none) (ty := 0) (pos := "") (af := #[]) (g := none) (fx := .const (.func (.func gf) #[] caps.toArray)) (xs := #[.const (.func (.yield l) #[] #[])]) (Ts := #[]) (vs := [.func (.yield l) #[] #[]]) (cs := caps)
      ((H.length, 2) :: sh) rfl hcall rfl hM hshX hok (.inl (by simpa using hst)) a.eval W1 o1 (fun x v hx => Agree.ev (V := fun _ => none) (a := a) (fun t v h => by cases h) hx) hb1 hs1
    unfold Does at hop
    rw [show (execOp a.eval ⟨none, .call ⟨.value (.const (.func (.func gf) #[] caps.toArray)), #[.const (.func (.yield l) #[] #[])], #[]⟩, 0, "", #[], none⟩).run E.P W1 = .ok (.enter gf (.func (.yield l) #[] #[] :: caps).toArray) W1 by
      simp [execOp, resolve, invoke, Deferred.ofValue, Act.eval, hcall]] at hop
    refine CallsIn.mono (F := FR none) (callsIn_wide.2 hop) ?_
    rintro e w2 ⟨v, rfl, H', o2, ⟨G, ⟨_, rfl⟩, rfl⟩, hb2, ht2, hs2⟩
    have hout : lentOut ((H.length, 2) :: sh) (H1 ++ [A (s0, none)]) = lentOut sh H1 ++ [HA.emp] := by
      rw [← lentOut_snoc]
      unfold lentOut
      rw [List.foldl_cons]
      congr 1
      simp [← hlen1]
    rw [hout] at hs2
    have hlen2 : (lentOut sh H1).length = H.length := (lentOut_length _ _).trans hlen1
    -- behind the function
    have key : ∀ (s : S) (g : G) (st : LoopState) (pe : Option Code) (op : Own), st ≠ .busy → Bnd w2 op → Sats w2 op (loopHA l (rc st pe) :: Hs s g) → (∀ b j, op b = .mine j → o2 b = .mine (H.length + 1) ∧ b < w2.heap.size) → (∀ b, b < w2.heap.size → op b = .no → o2 b = .no) →
        ∃ w4, (Instr.endLoop l).run E.P w2 = .ok pe w4 ∧ Rel E V (lentOut sh H1 ++ Gr ++ Hs s g) { a with defers := { target := .collected w.heap.size, args := #[] } :: a.defers } w4 := by
      intro s g st pe op hst' hbp hsp hmp hnp
      obtain ⟨hp1, hp2, hp3⟩ := hsp 0 _ rfl
      have hst'' : (rc st pe).state ≠ .busy := by rw [← hrc]; exact hst'
      have hpe : (rc st pe).pending = pe := by rw [← hrc]; rfl
      obtain ⟨ob, hend⟩ : ∃ ob, (Instr.endLoop l).run E.P w2 = .ok pe (w2.putObj l ob) := by
        have h := run_endLoop (P := E.P) hp3 hst''
        rw [hpe] at h
        exact ⟨_, h⟩
      refine ⟨_, hend, ?_⟩
      obtain ⟨w4, hw4⟩ : ∃ w4, w2.putObj l ob = w4 := ⟨_, rfl⟩
      rw [hw4]
      have hsz4 : w4.heap.size = w2.heap.size := by rw [← hw4]; exact World.putObj_size
      have hot4 : ∀ b, b ≠ l → w4.heap[b]? = w2.heap[b]? := fun b hb => by rw [← hw4]; exact World.putObj_heap_other hb
      have hl2 : o2 l = .mine (H.length + 1) := (hmp l 0 hp1).1
      obtain ⟨o4, ho4⟩ : ∃ o4 : Own, (fun b => match o2 b with
        | .mine j => if j = H.length + 1 then (match op b with | .mine (q + 1) => .mine (H.length + Gr.length + q) | _ => .far) else if j < H.length then .mine j else .mine (j - 2)
        | x => x) = o4 := ⟨_, rfl⟩
      have o4n : ∀ b, o2 b = .no → o4 b = .no := fun b h => by rw [← ho4]; simp [h]
      have o4f : ∀ b, o2 b = .far → o4 b = .far := fun b h => by rw [← ho4]; simp [h]
      have hnl : ∀ b j, o2 b = .mine j → j ≠ H.length + 1 → b ≠ l := by rintro b j h1 h2 rfl; rw [hl2] at h1; cases h1; exact h2 rfl
      have hnn : ∀ b, o2 b = .no → b ≠ l := by rintro b h1 rfl; rw [hl2] at h1; cases h1
      have hnf : ∀ b, o2 b = .far → b ≠ l := by rintro b h1 rfl; rw [hl2] at h1; cases h1
      have ht4 : Tr w2 o2 w4 o4 := ⟨by rw [← hw4]; rfl, by rw [← hw4]; rfl, by rw [← hw4]; rfl, by omega, fun b _ ho => ⟨o4n b ho, hot4 b (hnn b ho)⟩, fun b _ ho => ⟨o4f b ho, hot4 b (hnf b ho)⟩⟩
      have hall : Tr w o w4 o4 := (ht1.trans ht2).trans ht4
      obtain ⟨hf1, hh1⟩ := (ht2.trans ht4).far w.heap.size (by omega) o1D
      refine ⟨hz, (fun h => by rw [hE] at h; cases h), ha, o4, ?_, ⟨ht.tr.trans hall, ?_, ?_⟩, ?_⟩
      · intro b hb'; exact o4n b (hb2 b (by omega))
      · intro d hd'
        rcases List.mem_cons.1 hd' with rfl | hd'
        · exact ⟨_, rfl, ht.tr.size, by have := ht2.size; omega, hf1, hh1.trans hK1⟩
        · exact (ht.mks.trans hall).1 d hd'
      · refine List.nodup_cons.2 ⟨fun hm => ?_, ht.mks.2⟩
        obtain ⟨D', e', _, h2, _, _⟩ := ht.mks.1 _ hm
        simp at e'
        omega
      · intro j h hj
        rw [List.append_assoc, List.getElem?_append] at hj
        split at hj
        · rename_i hlt
          have hlt' : j < H.length := by omega
          refine h.keep (w := w2) (o := o2) (k := j) (by omega) (fun b _ ho => ?_) (fun b _ ho => ⟨o4n b ho, hot4 b (hnn b ho)⟩) (hs2 j h (by rw [List.append_assoc, List.getElem?_append_left hlt]; exact hj))
          have h1 : ¬ j = H.length + 1 := by omega
          exact ⟨by rw [← ho4]; simp [ho, h1, hlt'], hot4 b (hnl b j ho h1)⟩
        · rename_i hge
          rw [hlen2] at hge hj
          rw [List.getElem?_append] at hj
          split at hj
          · rename_i hlt
            refine h.keep (w := w2) (o := o2) (k := j + 2) (by omega) (fun b _ ho => ?_) (fun b _ ho => ⟨o4n b ho, hot4 b (hnn b ho)⟩) (hs2 (j + 2) h ?_)
            · have h1 : ¬ j + 2 = H.length + 1 := by omega
              have h2 : ¬ j + 2 < H.length := by omega
              refine ⟨?_, hot4 b (hnl b _ ho h1)⟩
              rw [← ho4]; simp only [ho, h1, h2, if_false]; simp
            · rw [List.getElem?_append_right (by simp [hlen2]; omega)]
              simp only [List.length_append, hlen2, List.length_singleton]
              rw [show j + 2 - (H.length + 1) = (j - H.length) + 1 by omega, List.getElem?_cons_succ]
              exact hj
          · rename_i hge2
            have hq : (Hs s g)[j - H.length - Gr.length]? = some h := hj
            refine h.keep (w := w2) (o := op) (k := j - H.length - Gr.length + 1) (by omega) (fun b _ ho => ?_) (fun b hlt ho => ?_) (hsp (j - H.length - Gr.length + 1) h (by simpa using hq))
            · have hbl : b ≠ l := by rintro rfl; rw [hp1] at ho; cases ho
              refine ⟨?_, hot4 b hbl⟩
              rw [← ho4]
              simp only [(hmp b _ ho).1, if_true, ho]
              congr 1
              omega
            · have h2 := hnp b hlt ho
              exact ⟨o4n b h2, hot4 b (hnn b h2)⟩
    have hlast : (lentOut sh H1 ++ [HA.emp] ++ (A r :: Gr))[H.length + 1]? = some (A r) := by
      rw [List.getElem?_append_right (by simp [hlen2])]
      simp [hlen2]
    have hAr := hs2 (H.length + 1) _ hlast
    rw [← hA] at hAr
    obtain ⟨s, i⟩ := r
    cases i with
    | none =>
      obtain ⟨g, op, c1, c2, c3, c4⟩ := hAr
      obtain ⟨w4, e1, e2⟩ := key s g .ready none op (by simp) c1 c2 c3 c4
      exact ⟨none, w4, e1, hgo rfl g _ _ e2⟩
    | some i =>
      obtain ⟨g, op, c1, c2, c3, c4⟩ := hAr
      obtain ⟨w4, e1, e2⟩ := key s g .done _ op (by simp) c1 c2 c3 c4
      obtain ⟨c, hc, hk⟩ := hjump i rfl
      rw [hc] at e1
      refine ⟨some c, w4, e1, ?_⟩
      have := hk g _ _ e2
      rw [hE] at this
      exact this
end Go.Abs
namespace Go.Abs
section
variable {V : VF} {H : List HA} {P : Program} {d : Option Nat} {ty : TypeId} {pos : String} {af : Array Edge} {g : Option (Nat × Bool)}
theorem y_nilBox {x : Operand} {b off : Nat} (hx : V.ev x = some (boxP b off)) : OpY P ⟨d, .nilCheck x, ty, pos, af, g⟩ V H (boxP b off) := by
  intro ρ w o hf _ _
  simp [execOp, hf x _ hx, boxP]
end
end Go.Abs
namespace Go.Abs
/-- on behind a range over a function: off its end, or by a jump -/
def onJump {β : Type} (r : Option Nat) (go : Option β) (js : List (Option β)) : Option β :=
  match r with
  | none => go
  | some i => match js[i]? with
    | some x => x
    | none => none
theorem onJump_none {β : Type} {r : Option Nat} {go : Option β} {js : List (Option β)} {b : β} (hr : r = none) (h : onJump r go js = some b) : go = some b := by subst hr; exact h
theorem onJump_some {β : Type} {r : Option Nat} {go : Option β} {js : List (Option β)} {b : β} {i : Nat} (hr : r = some i) (h : onJump r go js = some b) : ∃ x, js[i]? = some x ∧ x = some b := by
  subst hr
  unfold onJump at h
  cases hx : js[i]? with
  | none => simp [hx] at h
  | some x => exact ⟨x, rfl, by simpa [hx] using h⟩
end Go.Abs
namespace Go.Abs
section
variable {E : Env} {k : List KI} {V : VF} {H : List HA} {ops : Array Oper} {op : Oper} {listed : Array Bool} {fuel : Nat} {Hs : List HA}
theorem any_ty {v : Value} {i : Nat} (hi : ops[i]? = some op) (hw : Wants E.n ops V op) (hd : inB E.n op.dst = true) (h : OpY E.P op V H v)
    (hk : Sub H Hs ∧ AnyL E ops (listed.setIfInBounds i true) fuel k (V.put op.dst v) H Hs) : AnyO E ops listed fuel k V H Hs i :=
  any_t hi hw hd h.t fun _ _ ⟨e1, e2⟩ => by rw [e1, e2]; exact hk
end
end Go.Abs
namespace Go.Abs
theorem sub_lo {α β : Type} (f : α → β) (l : List α) (a : Nat) : ((l.map f).take ((l.length : Int)).toNat).drop a = (l.drop a).map f := by
  rw [Int.toNat_natCast, List.take_of_length_le (by simp), List.map_drop]
theorem sub_hi {α β : Type} (f : α → β) (l : List α) (b : Nat) : ((l.map f).take b).drop ((0 : Int).toNat) = (l.take b).map f := by
  simp [List.map_take]
end Go.Abs
namespace Go.Abs
/-- Option.bind under a name of its own (the unifier opens Option.bind too early) -/
def obind {α β : Type} (x : Option α) (f : α → Option β) : Option β := x.bind f
theorem obind_some {α β : Type} {x : Option α} {f : α → Option β} {b : β} (h : obind x f = some b) : ∃ a, x = some a ∧ f a = some b := bind_some h
end Go.Abs
namespace Go.Abs
variable {E : Env} {k : List KI} {V : VF} {H : List HA} {P : Program}
theorem callx_core {f : FuncId} {vs : List Value} {Hc : List HA} {post : Post} (sh : List (Nat × Nat)) (hcall : ∀ args w, (callFunc f args).run P w = .ok (.enter f args) w)
    (hc : Meets P f vs Hc post) (hsh : ShowsX H sh Hc) (hok : okX sh = true) (hst : (sh.all fun s => s.2 != 1) = true ∨ ∀ v G, post v G → ∀ g ∈ G, g.Strict) {w : World} {o : Own} (hbd : Bnd w o) (hs : Sats w o H) :
    Calls P f vs.toArray w (fun e w'' => ∃ v, e = .returned v ∧ ∃ H' o', (∃ G, post v G ∧ H' = lentOut sh H ++ G) ∧ Bnd w'' o' ∧ Tr w o w'' o' ∧ Sats w'' o' H') := by
  have hop := t_callx (P := P) (V := fun _ => none) (d := none) (ty := 0) (pos := "") (af := #[]) (g := none) (fx := .const (.func (.func f) #[] #[])) (xs := (vs.map Operand.const).toArray) (Ts := #[]) (vs := vs) (cs := [])
    sh rfl hcall (by simp [VF.ev, Function.comp_def]) (by simpa using hc) hsh hok hst (fun x => match x with | .const c => c | .global g => .pointer (some ⟨g, 0, none⟩) | .func f => .func (.func f) #[] #[] | .tmp _ => undef) w o
    (fun x v hx => by cases x <;> simp [VF.ev] at hx ⊢ <;> exact hx) hbd hs
  unfold Does at hop
  rw [show (execOp _ ⟨none, .call ⟨.value (.const (.func (.func f) #[] #[])), (vs.map Operand.const).toArray, #[]⟩, 0, "", #[], none⟩).run P w = .ok (.enter f vs.toArray) w by
    simp [execOp, resolve, invoke, Deferred.ofValue, hcall, Function.comp_def]] at hop
  exact hop
section
variable {d : Option Nat} {ty : TypeId} {pos : String} {af : Array Edge} {g : Option (Nat × Bool)}
theorem y_mkIface {T : TypeId} {ds : TypeDesc} {x : Operand} {v : Value} (hu : ∀ w, (underlying T).run P w = .ok ds w) (hni : (match ds with | .interface _ => false | _ => true) = true) (hx : V.ev x = some v) :
    OpY P ⟨d, .makeInterface T x, ty, pos, af, g⟩ V H (.iface T v) := by
  intro ρ w o hf _ _
  cases ds <;> simp at hni <;> simp [execOp, Instr.makeInterface, hu, hf x _ hx]
theorem t_invoke {rx : Operand} {name : String} {T : TypeId} {rv rv' : Value} {f : FuncId} {xs : Array Operand} {Ts : Array TypeId} {vs : List Value} {Hc : List HA} {post : Post}
    (sh : List (Nat × Nat)) (hrx : V.ev rx = some (.iface T rv)) (hm : ∀ n w o, Sats w o H → (method (n + 1) T rv name).run P w = .ok (f, rv') w) (hcall : ∀ args w, (callFunc f args).run P w = .ok (.enter f args) w)
    (hxs : xs.toList.map V.ev = vs.map some) (hc : Meets P f (rv' :: vs) Hc post) (hsh : ShowsX H sh Hc) (hok : okX sh = true)
    (hst : (sh.all fun s => s.2 != 1) = true ∨ ∀ v G, post v G → ∀ g ∈ G, g.Strict) :
    OpT P ⟨d, .call ⟨.invoke rx name, xs, Ts⟩, ty, pos, af, g⟩ V H (fun v' H' => ∃ G, post v' G ∧ H' = lentOut sh H ++ G) := by
  intro ρ w o hf hbd hs
  have hargs : (xs.map ρ) = vs.toArray := by
    apply Array.ext'
    rw [Array.toList_map]
    generalize xs.toList = l at hxs
    clear hc
    induction l generalizing vs with
    | nil => cases vs <;> simp_all
    | cons x r ih =>
      cases vs with
      | nil => simp at hxs
      | cons v vs =>
        simp only [List.map_cons, List.cons.injEq] at hxs ⊢
        exact ⟨hf _ _ hxs.1, ih hxs.2⟩
  have hrun : (execOp ρ ⟨d, .call ⟨.invoke rx name, xs, Ts⟩, ty, pos, af, g⟩).run P w = .ok (.enter f (rv' :: vs).toArray) w := by
    obtain ⟨n, hn⟩ : ∃ n, P.types.size + Made.depth = n + 1 := ⟨P.types.size + (Made.depth - 1), by simp [Made.depth]⟩
    simp [execOp, resolve, invoke, hf rx _ hrx, hargs, callMethod, hn, hm n w o hs, hcall, Sem.run_bind, Result.andThen]
  unfold Does
  rw [hrun]
  exact callx_core sh hcall hc hsh hok hst hbd hs
end
/-- a method with a pointer's receiver, of the pointer's type -/
theorem method_ptr {T el : TypeId} {ti : TypeInfo} {name : String} {f : FuncId} {n : Nat} {v : Value} {m} {w : World} (hti : ∀ w, (typeInfo T).run P w = .ok ti w) (hf : ti.methods.find? (·.name == name) = some m)
    (hp : m.path = #[]) (hm : m.func = some (f, true)) (hu : ∀ w, (underlying T).run P w = .ok (.pointer el) w) : (method (n + 1) T v name).run P w = .ok (f, v) w := by
  unfold method
  simp only [Sem.run_bind, hti, Result.andThen_ok]
  rw [hf]
  simp [hp, follow, hm, receiverAt, hu, Place.get, Sem.run_bind, Result.andThen]
theorem wrapchk {ts : Array TypeId} {t : TypeId} {a : Addr} {x y : String} {w : World} : (Builtin.ssaWrapNilChk_ ts t #[.pointer (some a), strVal x, strVal y]).run P w = .ok (.pointer (some a)) w := rfl
/-- a method with the value's receiver, called at a pointer: the value is loaded -/
theorem method_val {T el : TypeId} {ti : TypeInfo} {name : String} {f : FuncId} {n : Nat} {b : Nat} {u : Value} {m} {w : World} (hti : ∀ w, (typeInfo T).run P w = .ok ti w) (hf : ti.methods.find? (·.name == name) = some m)
    (hp : m.path = #[]) (hm : m.func = some (f, false)) (hu : ∀ w, (underlying T).run P w = .ok (.pointer el) w) (hl : (loadVar el ⟨b, 0, none⟩).run P w = .ok u w) : (method (n + 1) T (boxP b 0) name).run P w = .ok (f, u) w := by
  unfold method
  simp only [Sem.run_bind, hti, Result.andThen_ok]
  rw [hf]
  simp [hp, follow, hm, receiverAt, hu, Place.get, Sem.run_bind, Result.andThen, boxP, wrapchk, asAddr, hl]
theorem load_box {T : TypeId} {r : Value} {b : Nat} {vs : List Value} {w : World} {o : Own} (m : Nat) (ha : ∀ w, (isAgg T).run P w = .ok false w) (hm : H[m]? = some (box b vs)) (hc : vs[0]? = some r) (hs : Sats w o H) :
    (loadVar T ⟨b, 0, none⟩).run P w = .ok r w := by
  obtain ⟨_, _, T', fz, e3, _⟩ := hs m _ hm
  have := cell_at e3 0
  simp [loadVar, ha, this, hc]
section
variable {d : Option Nat} {ty : TypeId} {pos : String} {af : Array Edge} {g : Option (Nat × Bool)}
/-- the dynamic type is the one asked for -/
theorem y_assert {T U : TypeId} {ds : TypeDesc} {x : Operand} {v : Value} (hu : ∀ w, (underlying T).run P w = .ok ds w) (hni : (match ds with | .interface _ => false | _ => true) = true) (hx : V.ev x = some (.iface T v)) :
    OpY P ⟨d, .typeAssert x U T false, ty, pos, af, g⟩ V H v := by
  intro ρ w o hf _ _
  cases ds <;> simp at hni <;> simp [execOp, Instr.typeAssert, hu, hf x _ hx]
end
end Go.Abs
