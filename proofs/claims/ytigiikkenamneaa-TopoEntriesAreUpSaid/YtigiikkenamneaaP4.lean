/-
  The law TopoEntriesAreUp, in plain words.
-/
import Derived.Test.YtigiikkenamneaaPk
import Derived.Test.YtigiikkenamneaaSane
import Derived.Test.YtigiikkenamneaaW4
import Derived.Test.YtigiikkenamneaaOpn
namespace Go.Proofs.Ytigiikkenamneaa
open Go.Abs
set_option linter.unusedSimpArgs false
set_option linter.unusedVariables false
theorem trn_len (l : List S_api_Hub) (i : Nat) (u : Bool) : (trn l i u).length = l.length := by simp [trn]
theorem trn_st (l : List S_api_Hub) (i : Nat) (u : Bool) (j : Nat) : st (trn l i u) j = st l j := by
  by_cases h : i = j
  · subst h
    by_cases hi : i < l.length
    · simp [trn, st, hi]
    · simp [trn, st, hi]
  · simp [trn, st, List.getElem?_set_ne h]
theorem trn_pa (l : List S_api_Hub) (i : Nat) (u : Bool) (j : Nat) : pa (trn l i u) j = pa l j := by
  by_cases h : i = j
  · subst h
    by_cases hi : i < l.length
    · simp [trn, pa, hi]
    · simp [trn, pa, hi]
  · simp [trn, pa, List.getElem?_set_ne h]
theorem trn_up {l : List S_api_Hub} {i : Nat} (hi : i < l.length) (u : Bool) (j : Nat) : up (trn l i u) j = if j = i then u else up l j := by
  by_cases h : i = j
  · subst h; simp [trn, up, hi]
  · rw [if_neg (fun e => h e.symm)]; simp [trn, up, List.getElem?_set_ne h]
theorem trn_srt {l : List S_api_Hub} (h : srt l) (i : Nat) (u : Bool) : srt (trn l i u) := by
  intro j hj
  rw [trn_len] at hj
  rw [trn_st, trn_st]; exact h j hj
theorem trn_at {l : List S_api_Hub} (h : srt l) (i : Nat) (u : Bool) (s : Int) : at_ (trn l i u) s = at_ l s := by
  rcases at_cases l s with ⟨h1, h2⟩ | ⟨j, hj, h1, h2⟩
  · rcases at_cases (trn l i u) s with ⟨h3, _⟩ | ⟨j, hj, _, h3⟩
    · rw [h1, h3]
    · rw [trn_len] at hj; rw [trn_st] at h3; exact absurd h3 (h2 j hj)
  · have := at_st (trn_srt h i u) (i := j) (by rw [trn_len]; exact hj)
    rw [trn_st, h2] at this; rw [this, h1]
theorem trn_rt {l : List S_api_Hub} (h : srt l) (i : Nat) (u : Bool) : ∀ (f : Nat) (s : Int), rt (trn l i u) f s = rt l f s
  | 0, s => rfl
  | f + 1, s => by simp only [rt, trn_at h, trn_pa, trn_rt h i u f]
theorem trn_valid {m : S_api_Map} (hv : valid m) (i : Nat) (u : Bool) : valid ⟨trn m.Hubs i u, m.Routes⟩ := by
  refine ⟨trn_srt hv.srt i u, fun j hj => ?_, ?_⟩
  · simp only [trn_len] at hj ⊢
    rw [trn_rt hv.srt, trn_st]; exact hv.rooted j hj
  · have := hv.routes
    rw [List.all_eq_true] at this ⊢
    intro k hk
    have h1 := this k hk
    simp only [rok, sok, cy, rs, trn_at hv.srt] at h1 ⊢
    exact h1
theorem trn_back {l : List S_api_Hub} {i : Nat} (hi : i < l.length) (u : Bool) : trn (trn l i u) i (up l i) = l := by
  refine List.ext_getElem? fun j => ?_
  have hx := List.getElem?_eq_getElem hi
  by_cases h : i = j
  · subst h
    have : (trn l i u)[i]? = some ⟨st l i, pa l i, u⟩ := by simp [trn, hi]
    rw [show trn (trn l i u) i (up l i) = (trn l i u).set i ⟨st (trn l i u) i, pa (trn l i u) i, up l i⟩ from rfl, trn_st, trn_pa]
    rw [List.getElem?_set_self (by rw [trn_len]; exact hi), hx, ← st_of hx, ← pa_of hx, ← up_of hx]
  · simp [trn, List.getElem?_set_ne h]
/-- what the law notes down of each site -/
theorem note_eq {m : S_api_Map} (hf : few m) (hv : valid m) (n : Nat) (hn : 100 ≤ n) :
    ∃ (us : List Bool) (qs : List Int), iter (law42_TopoEntriesAreUp_L1 m) n (0, List.replicate (64 : Int).toNat false, List.replicate (64 : Int).toNat 0) = some (.go (us, qs)) ∧ us.length = 64 ∧ qs.length = 64 ∧ ∀ i, i < m.Hubs.length → us[(st m.Hubs i).toNat]? = some (up m.Hubs i) ∧ qs[(st m.Hubs i).toNat]? = some (pa m.Hubs i) := by
  have h70 := hf.1
  have key := iter_inv (step := law42_TopoEntriesAreUp_L1 m) (fun s => ∃ i : Nat, s.1 = (i : Int) ∧ i ≤ m.Hubs.length ∧ s.2.1.length = 64 ∧ s.2.2.length = 64 ∧ ∀ j, j < i → s.2.1[(st m.Hubs j).toNat]? = some (up m.Hubs j) ∧ s.2.2[(st m.Hubs j).toNat]? = some (pa m.Hubs j)) (fun s => m.Hubs.length - s.1.toNat)
    (fun r => ∃ (us : List Bool) (qs : List Int), r = .go (us, qs) ∧ us.length = 64 ∧ qs.length = 64 ∧ ∀ i, i < m.Hubs.length → us[(st m.Hubs i).toNat]? = some (up m.Hubs i) ∧ qs[(st m.Hubs i).toNat]? = some (pa m.Hubs i)) (by
      rintro ⟨i', us, qs⟩ ⟨i, he, hi, hu, hq, ha⟩
      simp only at he hi hu hq ha
      subst he
      unfold law42_TopoEntriesAreUp_L1
      by_cases hlt : i < m.Hubs.length
      · left
        have e : decide ((i : Int) < (m.Hubs.length : Int)) = true := by simpa using hlt
        simp only [e, cond_true]
        have hx := List.getElem?_eq_getElem hlt
        have hs := hv.srt i hlt
        rw [idx_get hx]
        simp only [st_of hx, pa_of hx, up_of hx]
        rw [idx_int hs.1 (by omega), idx_int hs.1 (by omega), w64 (by omega) (by omega)]
        refine ⟨_, rfl, ⟨i + 1, by simp, by omega, by simpa using hu, by simpa using hq, fun j hj => ?_⟩, by simp only; omega⟩
        by_cases hji : j = i
        · subst hji
          exact ⟨List.getElem?_set_self (by omega), List.getElem?_set_self (by omega)⟩
        · have h1 := srt_lt hv.srt i j (by omega) hlt
          have h2 := (hv.srt j (by omega)).1
          have : (st m.Hubs i).toNat ≠ (st m.Hubs j).toNat := by omega
          simp only [List.getElem?_set_ne this]
          exact ha j (by omega)
      · right
        have e : decide ((i : Int) < (m.Hubs.length : Int)) = false := by simpa using hlt
        simp only [e, cond_false]
        exact ⟨_, rfl, us, qs, rfl, hu, hq, fun j hj => ha j (by omega)⟩) n (0, List.replicate (64 : Int).toNat false, List.replicate (64 : Int).toNat 0) ⟨0, rfl, by omega, rfl, rfl, fun j hj => by omega⟩ (by simp; omega)
  obtain ⟨r, h1, us, qs, rfl, h2⟩ := key
  exact ⟨us, qs, h1, h2⟩
theorem walk_eq {m : S_api_Map} (hf : few m) (hv : valid m) {us : List Bool} {qs : List Int} (hu : us.length = 64) (hq : qs.length = 64) (ha : ∀ i, i < m.Hubs.length → us[(st m.Hubs i).toNat]? = some (up m.Hubs i) ∧ qs[(st m.Hubs i).toNat]? = some (pa m.Hubs i))
    (R : List Int × Int) (hR : R.1.length ≤ 1000) : ∀ (f n : Nat) (s : Int) (k : Nat), rt m.Hubs f s = true → R.1.drop k = cl m.Hubs f s → k ≤ R.1.length → f < n → iter (law42_TopoEntriesAreUp_L2 us qs R) n (s, (k : Int)) = some (.go (R.1.length : Int))
  | f, 0, _, _, _, _, _, h => by omega
  | f, n + 1, s, k, hr, hd, hk, hn => by
    by_cases hs : s = -1
    · subst hs
      have : R.1.drop k = [] := by rw [hd]; cases f <;> simp [cl]
      have hk2 : R.1.length ≤ k := by simpa using this
      rw [iter_stop (r := .go (k : Int)) (by unfold law42_TopoEntriesAreUp_L2; simp)]
      rw [show k = R.1.length by omega]
    · obtain ⟨g, rfl, h1, h2⟩ := rt_step hs hr
      obtain ⟨j, hj, h3, h4⟩ := at_some h1
      have h0 := hv.srt j hj
      rw [h3, Int.toNat_natCast] at h2
      have h5 : upS m.Hubs s = up m.Hubs j := by unfold upS; rw [h3]; simp
      simp only [cl, hs, if_false, h3, Int.toNat_natCast] at hd
      obtain ⟨a1, a2⟩ := ha j hj
      rw [h4] at a1 a2 h0
      have e : decide (0 ≤ s) = true := by simp; omega
      have hidx : ∀ {α β : Type} {l : List α} {x : α} (k : α → Option β), l[s.toNat]? = some x → idx l s k = k x := fun k h => by
        have := idx_get h k
        rwa [show ((s.toNat : Nat) : Int) = s by omega] at this
      cases hup : up m.Hubs j with
      | true =>
        rw [hup] at a1
        rw [h5, hup, if_pos rfl] at hd
        have hk3 : k < R.1.length := Nat.lt_of_not_le fun q => by rw [List.drop_eq_nil_of_le q] at hd; simp at hd
        rw [List.drop_eq_getElem_cons hk3, List.singleton_append, List.cons.injEq] at hd
        have hst : law42_TopoEntriesAreUp_L2 us qs R (s, (k : Int)) = some (.go (pa m.Hubs j, ((k + 1 : Nat) : Int))) := by
          unfold law42_TopoEntriesAreUp_L2
          simp only [e, cond_true]
          have e2 : decide ((R.1.length : Int) ≤ (k : Int)) = false := by simp; omega
          rw [hidx _ a1, cond_true, e2, cond_false, idx_get' hk3, w64 (by omega) (by omega)]
          simp only [hd.1, ne_eq, not_true_eq_false, decide_false, bindJ_go, cond_false]
          rw [hidx _ a2]; simp
        rw [iter_go hst, walk_eq hf hv hu hq ha R hR g n _ (k + 1) h2 hd.2 (by omega) (by omega)]
      | false =>
        rw [hup] at a1
        rw [h5, hup, if_neg (by simp), List.nil_append] at hd
        have hst : law42_TopoEntriesAreUp_L2 us qs R (s, (k : Int)) = some (.go (pa m.Hubs j, (k : Int))) := by
          unfold law42_TopoEntriesAreUp_L2
          simp only [e, cond_true]
          rw [hidx _ a1, cond_false, bindJ_go, hidx _ a2]
        rw [iter_go hst, walk_eq hf hv hu hq ha R hR g n _ k h2 hd hk (by omega)]
theorem find_less {L : List Int} {p q : Int → Bool} {n : Int} (h : ∀ s ∈ L, q s = (p s && !decide (s = n))) : (L.find? p = some n → L.find? q ≠ some n) ∧ (L.find? p ≠ some n → L.find? q = L.find? p) := by
  induction L with
  | nil => simp
  | cons x r ih =>
    have hx := h x (List.mem_cons_self ..)
    have ih := ih fun s hs => h s (List.mem_cons_of_mem _ hs)
    have hq : ∀ L : List Int, (∀ s ∈ L, q s = (p s && !decide (s = n))) → L.find? q ≠ some n := fun L hL hc => by
      have h1 := List.find?_some hc
      have h2 := hL n (List.mem_of_find?_eq_some hc)
      rw [h1] at h2; simp at h2
    refine ⟨fun _ => hq _ h, fun hne => ?_⟩
    rw [List.find?_cons, List.find?_cons] at *
    cases hp : p x with
    | false =>
      rw [hp] at hx hne
      simp only [Bool.false_and] at hx
      rw [hx]
      exact ih.2 hne
    | true =>
      rw [hp] at hx hne
      have : x ≠ n := fun e => hne (by rw [e])
      simp only [this, decide_false, Bool.not_false, Bool.and_true] at hx
      rw [hx]
theorem entries_true (m : S_api_Map) (c : List UInt8) (s : Int) (wm : S_api_Map.wf m) (wc : c.length ≤ maxLen) (ws : wfI .i64 s) : ∃ n, law42_TopoEntriesAreUp n m c s = some true := by
  refine ⟨m.Routes.length + 5000 + 60, ?_⟩
  have hs := sane (m.Routes.length + 5000)
  have la : m.Routes.length ≤ 9223372036854775807 := wm.2.1
  unfold law42_TopoEntriesAreUp
  generalize hn : m.Routes.length + 5000 + 60 = n at *
  obtain ⟨fb, eb, gb⟩ := few_eq m n la (by omega)
  rw [eb]
  simp only [obind, Option.bind_some]
  cases fb with
  | false => simp [hs]
  | true =>
    have hf := gb rfl
    have h70 := hf.1
    have h20 := hf.2.1
    rw [valid_eq hf n (by omega)]
    by_cases hv : valid m
    · rw [vb_true.2 hv]
      simp only [Bool.not_true, cond_false, Option.bind_some, bindJ_go]
      rw [need_pos (by omega), need_pos (by omega)]
      obtain ⟨us, qs, h1, hu, hq, ha⟩ := note_eq hf hv n (by omega)
      rw [h1, entry_eq hf c n (by omega)]
      simp only [bindJ_go, Option.bind_some]
      have hent : ent m c = match (sof m c).find? (upS m.Hubs) with | some s => (s, 0) | none => (0, 5) := by unfold ent; rw [if_pos (vb_true.2 hv)]; rfl
      have hup : bindJ (S := Bool) (cond (decide ((ent m c).2 = 0)) (bindJ (S := Bool) (cond (decide ((ent m c).1 < 0) || decide (64 ≤ (ent m c).1)) (some (.go true)) (idx us (ent m c).1 fun x55 => some (.go (!x55)))) (fun b49 => some (.go b49))) (some (.go false))) = bindJ (R := Bool) (some (.go false)) := by
        rw [hent]
        cases hfd : (sof m c).find? (upS m.Hubs) with
        | none => simp
        | some x =>
          have hx := (sof_known hv c).1 x (List.mem_of_find?_eq_some hfd)
          have hpx := List.find?_some hfd
          obtain ⟨j, hj, h3, h4⟩ := at_some hx
          have h0 := hv.srt j hj
          have a1 := (ha j hj).1
          have h5 : upS m.Hubs x = up m.Hubs j := by unfold upS; rw [h3]; simp
          rw [← h5, hpx, h4] at a1
          rw [h4] at h0
          have e : (decide (x < 0) || decide (64 ≤ x)) = false := by simp; omega
          have := idx_get (β := Lp Bool (Lp Bool Bool)) a1 (fun x55 => some (.go (!x55)))
          rw [show ((x.toNat : Nat) : Int) = x by omega] at this
          simp only [e, decide_true, cond_true, cond_false, this]
          rfl
      rw [hup, bindJ_go, cond_false, turn_is hf s false n (by omega)]
      simp only [Option.bind_some]
      by_cases hk : at_ m.Hubs s = -1
      · have : tur m s false = (⟨[], []⟩, 5) := by unfold tur; rw [if_pos (vb_true.2 hv), if_pos hk]
        rw [this]; simp [hs]
      · obtain ⟨j, hj, h3, h4⟩ := at_some hk
        have h0 := hv.srt j hj
        have ht : tur m s false = (⟨trn m.Hubs j false, m.Routes⟩, 0) := by unfold tur; rw [if_pos (vb_true.2 hv), if_neg hk, h3, Int.toNat_natCast]
        have hc : clb m s = (cl m.Hubs m.Hubs.length s, 0) := by unfold clb; rw [if_pos (vb_true.2 hv), if_neg hk]
        have hv' := trn_valid hv j false
        have hf' : few ⟨trn m.Hubs j false, m.Routes⟩ := ⟨by simpa [trn_len] using hf.1, hf.2.1, hf.2.2⟩
        have ht' : tur ⟨trn m.Hubs j false, m.Routes⟩ s (up m.Hubs j) = (m, 0) := by
          unfold tur
          rw [if_pos (vb_true.2 hv')]
          simp only [trn_at hv.srt]
          rw [if_neg hk, h3, Int.toNat_natCast, trn_back hj]
        rw [ht]
        simp only [ne_eq, not_true_eq_false, decide_false, cond_false]
        rw [climb_is hf s n (by omega), hc]
        simp only [Option.bind_some, not_true_eq_false, decide_false, cond_false]
        have hlen : (cl m.Hubs m.Hubs.length s).length ≤ 100 := by
          have : ∀ (f : Nat) (s : Int), (cl m.Hubs f s).length ≤ f := fun f => by
            induction f with
            | zero => intro s; simp [cl]
            | succ f ih =>
              intro s
              simp only [cl]; split
              · simp
              · have := ih (pa m.Hubs (at_ m.Hubs s).toNat)
                rw [List.length_append]; split <;> simp <;> omega
          have := this m.Hubs.length s; omega
        have hw := walk_eq hf hv hu hq ha (cl m.Hubs m.Hubs.length s, 0) (by simp only; omega) m.Hubs.length n s 0 (by rw [← h4]; exact hv.rooted j hj) rfl (Nat.zero_le _) (by omega)
        have hw' : iter (law42_TopoEntriesAreUp_L2 us qs (cl m.Hubs m.Hubs.length s, 0)) n (s, 0) = _ := hw
        rw [hw']
        simp only [bindJ_go, not_true_eq_false, decide_false, cond_false]
        rw [moved_is hf hf' [c] (by simp) n (by omega) (by simp; omega)]
        simp only [Option.bind_some]
        have hent' : ent ⟨trn m.Hubs j false, m.Routes⟩ c = match (sof m c).find? (upS (trn m.Hubs j false)) with | some s => (s, 0) | none => (0, 5) := by unfold ent; rw [if_pos (vb_true.2 hv')]; rfl
        have hless := find_less (L := sof m c) (p := upS m.Hubs) (q := upS (trn m.Hubs j false)) (n := s) (fun x hx => by
          obtain ⟨i, hi, g3, g4⟩ := at_some ((sof_known hv c).1 x hx)
          unfold upS
          rw [trn_at hv.srt, g3, Int.toNat_natCast, trn_up hj]
          by_cases hij : i = j
          · subst hij
            have : x = s := by rw [← g4, h4]
            simp [this]
          · have : x ≠ s := fun q => hij (srt_inj hv.srt hi hj (by rw [g4, h4, q]))
            simp [this, hij])
        have hcond : ((decide (0 < ((mvd m ⟨trn m.Hubs j false, m.Routes⟩ [c]).length : Int)) && (decide ((ent m c).2 ≠ 0) || decide ((ent m c).1 ≠ s))) || ((decide (((mvd m ⟨trn m.Hubs j false, m.Routes⟩ [c]).length : Int) = 0) && decide ((ent m c).2 = 0)) && decide ((ent m c).1 = s))) = false := by
          unfold mvd mvB
          rw [List.filter_cons, List.filter_nil, hent, hent']
          by_cases hfs : (sof m c).find? (upS m.Hubs) = some s
          · have h7 := hless.1 hfs
            rw [hfs]
            cases hq' : (sof m c).find? (upS (trn m.Hubs j false)) with
            | none => simp
            | some y =>
              have : s ≠ y := fun e => h7 (by rw [hq', e])
              simp [this]
          · rw [hless.2 hfs]
            cases hq' : (sof m c).find? (upS m.Hubs) with
            | none => simp
            | some y =>
              have : y ≠ s := fun e => hfs (by rw [hq', e])
              simp [this]
        simp only [ne_eq] at hcond
        rw [hcond, cond_false]
        have a1 := (ha j hj).1
        rw [h4] at a1 h0
        have hidx := idx_get (β := Bool) a1
        rw [show ((s.toNat : Nat) : Int) = s by omega] at hidx
        rw [hidx, turn_is hf' s _ n (by omega), ht']
        simp only [Option.bind_some, hs, decide_true, Bool.and_true, cond_true]
        rw [samemap_refl m (by omega) (by omega) (fun r hr => by have := hf.2.2 r hr; omega) n (by omega)]
        rfl
    · rw [vb_false hv]; simp [hs]
end Go.Proofs.Ytigiikkenamneaa
