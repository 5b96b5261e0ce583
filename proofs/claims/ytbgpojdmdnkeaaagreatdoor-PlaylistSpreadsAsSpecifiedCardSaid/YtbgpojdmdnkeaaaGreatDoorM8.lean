/-
  Texts that stand side by side: AbsPlain, Pa, Pg, Ph, Pj, Pb, Pc, Pd, Pe, Pf, G3a, Pl, G4a.
-/
import Derived.Test.YtbgpojdmdnkeaaaGreatDoorM1
import Derived.Test.YtbgpojdmdnkeaaaGreatDoorFe
namespace Go.Abs
@[simp] theorem bindJ_go {S R : Type} (s : S) (k : S → Option R) : bindJ (some (.go s)) k = k s := rfl
@[simp] theorem bindJ_stop {S R : Type} (r : R) (k : S → Option R) : bindJ (some (.stop r)) k = some r := rfl
@[simp] theorem bindJ_none {S R : Type} (k : S → Option R) : bindJ (none : Option (Lp S R)) k = none := rfl
theorem need_pos {α : Type} {p : Prop} [Decidable p] (h : p) (x : Option α) : need p x = x := by simp [need, h]
theorem idx_get {α β : Type} {l : List α} {i : Nat} {x : α} (h : l[i]? = some x) (k : α → Option β) : idx l (i : Int) k = k x := by simp [idx, h]
theorem idx_get' {α β : Type} {l : List α} {i : Nat} (h : i < l.length) (k : α → Option β) : idx l (i : Int) k = k l[i] := idx_get (List.getElem?_eq_getElem h) k
theorem iter_go {S R : Type} {step : S → Option (Lp S R)} {n : Nat} {s s' : S} (h : step s = some (.go s')) : iter step (n + 1) s = iter step n s' := by simp [iter, h]
theorem iter_stop {S R : Type} {step : S → Option (Lp S R)} {n : Nat} {s : S} {r : R} (h : step s = some (.stop r)) : iter step (n + 1) s = some r := by simp [iter, h]
/-- a loop by an invariant and a measure -/
theorem iter_inv {S R : Type} {step : S → Option (Lp S R)} (inv : S → Prop) (μ : S → Nat) (post : R → Prop)
    (h : ∀ s, inv s → (∃ s', step s = some (.go s') ∧ inv s' ∧ μ s' < μ s) ∨ (∃ r, step s = some (.stop r) ∧ post r)) :
    ∀ (n : Nat) (s : S), inv s → μ s < n → ∃ r, iter step n s = some r ∧ post r
  | 0, s, _, hm => by omega
  | n + 1, s, hi, hm => by
    rcases h s hi with ⟨s', h1, h2, h3⟩ | ⟨r, h1, h2⟩
    · obtain ⟨r, h4, h5⟩ := iter_inv inv μ post h n s' h2 (by omega)
      exact ⟨r, by rw [iter_go h1, h4], h5⟩
    · exact ⟨r, iter_stop h1, h2⟩
theorem w64 {x : Int} (h1 : -9223372036854775808 ≤ x) (h2 : x ≤ 9223372036854775807) : IntKind.i64.wrap x = x := wrap_i64 h1 h2
end Go.Abs
namespace Go.Abs
/-- a walk along a list that may stop -/
def foldL {α S R : Type} (f : S → α → Lp S R) (fin : S → R) : S → List α → R
  | s, [] => fin s
  | s, x :: r => match f s x with
    | .go s' => foldL f fin s' r
    | .stop q => q
def Lp.mapS {S T R : Type} (g : S → T) : Lp S R → Lp T R
  | .go s => .go (g s)
  | .stop r => .stop r
@[simp] theorem mapS_go {S T R : Type} (g : S → T) (s : S) : (Lp.go s : Lp S R).mapS g = .go (g s) := rfl
@[simp] theorem mapS_stop {S T R : Type} (g : S → T) (r : R) : (Lp.stop r : Lp S R).mapS g = .stop r := rfl
/-- a loop that counts along a list -/
theorem iter_fold {α S T R : Type} {step : T → Option (Lp T R)} {l : List α} (mk : Nat → S → T) (f : S → α → Lp S R) (fin : S → R) (inv : Nat → S → Prop)
    (hgo : ∀ i s x, inv i s → l[i]? = some x → step (mk i s) = some ((f s x).mapS (mk (i + 1))) ∧ ∀ s', f s x = .go s' → inv (i + 1) s')
    (hend : ∀ s, inv l.length s → step (mk l.length s) = some (.stop (fin s))) :
    ∀ (n i : Nat) (s : S), inv i s → i ≤ l.length → l.length - i < n → iter step n (mk i s) = some (foldL f fin s (l.drop i))
  | 0, i, s, _, _, h => by omega
  | n + 1, i, s, hi, hle, h => by
    by_cases e : i = l.length
    · subst e
      rw [iter_stop (hend s hi), List.drop_length]; rfl
    · have hlt : i < l.length := by omega
      obtain ⟨h1, h2⟩ := hgo i s _ hi (List.getElem?_eq_getElem hlt)
      rw [List.drop_eq_getElem_cons hlt]
      cases hf : f s l[i] with
      | go s' =>
        rw [hf] at h1
        rw [iter_go h1, iter_fold mk f fin inv hgo hend n (i + 1) s' (h2 s' hf) (by omega) (by omega)]
        simp [foldL, hf]
      | stop q =>
        rw [hf] at h1
        rw [iter_stop h1]
        simp [foldL, hf]
end Go.Abs
namespace Go.Abs
theorem foldL_gom {α S R : Type} {f : S → α → Lp S R} {fin : S → R} (g : S → α → S) : ∀ (l : List α) (s : S), (∀ s x, x ∈ l → f s x = .go (g s x)) → foldL f fin s l = fin (l.foldl g s)
  | [], s, _ => rfl
  | x :: r, s, h => by
    simp only [foldL, h s x (List.mem_cons_self ..), List.foldl_cons]
    exact foldL_gom g r _ (fun s y hy => h s y (List.mem_cons_of_mem _ hy))
/-- a loop that counts up to N -/
theorem iter_range {S T R : Type} {step : T → Option (Lp T R)} (N : Nat) (mk : Nat → S → T) (f : S → Nat → Lp S R) (fin : S → R) (inv : Nat → S → Prop)
    (hgo : ∀ i s, inv i s → i < N → step (mk i s) = some ((f s i).mapS (mk (i + 1))) ∧ ∀ s', f s i = .go s' → inv (i + 1) s')
    (hend : ∀ s, inv N s → step (mk N s) = some (.stop (fin s))) (n : Nat) (s : S) (h0 : inv 0 s) (hn : N < n) : iter step n (mk 0 s) = some (foldL f fin s (List.range N)) := by
  have := iter_fold (l := List.range N) mk f fin inv (fun i s x hi hx => by
    have hlt := (List.getElem?_eq_some_iff.1 hx).1
    simp at hlt
    have : x = i := by simp [hlt] at hx; exact hx.symm
    subst this
    exact hgo x s hi hlt) (fun s hs => by simpa using hend s (by simpa using hs)) n 0 s h0 (Nat.zero_le _) (by simpa using hn)
  simpa using this
theorem iter_allgo {R : Type} {step : Int → Option (Lp Int R)} (N : Nat) (q : R) (h : ∀ i : Nat, i < N → step (i : Int) = some (.go ((i + 1 : Nat) : Int))) (he : step (N : Int) = some (.stop q)) (n : Nat) (hn : N < n) : iter step n 0 = some q := by
  have := iter_range (step := step) N (fun (i : Nat) (_ : Unit) => (i : Int)) (fun _ _ => Lp.go ()) (fun _ => q) (fun _ _ => True) (fun i s _ hi => ⟨h i hi, fun _ _ => trivial⟩) (fun s _ => he) n () trivial hn
  rw [foldL_gom (fun _ _ => ()) _ _ (fun _ _ _ => rfl)] at this
  exact this
end Go.Abs
namespace Go.Proofs.YtbgpojdmdnkeaaaGreatDoor
open Go.Abs
set_option linter.unusedSimpArgs false
set_option linter.unusedVariables false
theorem sane (n : Nat) : law43_sanity (n + 40) = some true := by kernel_rfl
def okSeg (s : S_api_Segment) : Prop := 0 ≤ s.Num ∧ s.Num ≤ 1099511627776 ∧ 0 ≤ s.Begin ∧ s.Begin ≤ 1099511627776 ∧ 1 ≤ s.Len ∧ s.Len ≤ 60000 ∧ 0 ≤ s.Size ∧ s.Size ≤ 1099511627776
instance (s : S_api_Segment) : Decidable (okSeg s) := by unfold okSeg; exact inferInstance
theorem right_eq (s : S_api_Segment) : playlist_right s = some (decide (okSeg s)) := by
  unfold playlist_right
  congr 1
  rw [Bool.eq_iff_iff]
  simp only [Bool.and_eq_true, decide_eq_true_eq]
  unfold okSeg
  omega
def joins (a b : S_api_Segment) : Prop := b.Num = a.Num + 1 ∧ b.Begin = a.Begin + a.Len
instance (a b : S_api_Segment) : Decidable (joins a b) := by unfold joins; exact inferInstance
theorem end_eq {s : S_api_Segment} (h : okSeg s) : playlist_end s = some (s.Begin + s.Len) := by
  unfold playlist_end
  unfold okSeg at h
  rw [w64 (by omega) (by omega)]
def Strm (l : List S_api_Segment) : Prop := (∀ i (h : i < l.length), okSeg l[i]) ∧ ∀ i (h : i + 1 < l.length), joins l[i] l[i + 1]
theorem stream_loop (l : List S_api_Segment) (hl : l.length ≤ 4294967296) (n : Nat) (hn : l.length < n) :
    ∃ r, iter (playlist_stream_L1 l) n 0 = some r ∧ ((r = .go () ∧ Strm l) ∨ (r = .stop false ∧ ¬ Strm l)) := by
  refine iter_inv (step := playlist_stream_L1 l) (fun s : Int => ∃ i : Nat, s = i ∧ i ≤ l.length ∧ (∀ j (h : j < l.length), j < i → okSeg l[j]) ∧ ∀ j (h : j + 1 < l.length), j + 1 < i → joins l[j] l[j + 1]) (fun s => l.length - s.toNat) _ ?_ n 0 ⟨0, rfl, Nat.zero_le _, fun j h hj => by omega, fun j h hj => by omega⟩ (by simpa using hn)
  rintro s ⟨i, rfl, hi, hok, hj⟩
  unfold playlist_stream_L1
  by_cases hlt : i < l.length
  · have e : decide ((i : Int) < (l.length : Int)) = true := by simpa using hlt
    simp only [e, cond_true]
    rw [idx_get' hlt, right_eq]
    simp only [obind, Option.bind_some]
    by_cases hk : okSeg l[i]
    · simp only [hk, decide_true, Bool.not_true, cond_false]
      by_cases h0 : i = 0
      · subst h0
        left
        refine ⟨1, by simp [w64], ⟨1, rfl, by omega, fun j h hj' => ?_, fun j h hj' => by omega⟩, by simp; omega⟩
        obtain rfl : j = 0 := by omega
        exact hk
      · have e1 : decide (0 < (i : Int)) = true := by simp; omega
        simp only [e1, cond_true]
        have hp : i - 1 < l.length := by omega
        rw [w64 (x := (i : Int) - 1) (by omega) (by omega), show (i : Int) - 1 = ((i - 1 : Nat) : Int) by omega, idx_get' hp]
        have hkp := hok (i - 1) hp (by omega)
        rw [end_eq hkp]
        have hkp' := hkp
        unfold okSeg at hkp'
        rw [w64 (x := l[i - 1].Num + 1) (by omega) (by omega)]
        simp only [obind, Option.bind_some]
        by_cases hjn : joins l[i - 1] l[i]
        · left
          obtain ⟨j1, j2⟩ := hjn
          refine ⟨((i + 1 : Nat) : Int), ?_, ⟨i + 1, rfl, by omega, fun j h hj' => ?_, fun j h hj' => ?_⟩, by simp; omega⟩
          · simp only [j1, j2, ne_eq, not_true_eq_false, decide_false, cond_false, bindJ_go]
            rw [w64 (x := (i : Int) + 1) (by omega) (by omega)]; rfl
          · by_cases e : j = i
            · subst e; exact hk
            · exact hok j h (by omega)
          · by_cases e : j + 1 = i
            · subst e; exact ⟨j1, j2⟩
            · exact hj j h (by omega)
        · right
          refine ⟨.stop false, ?_, .inr ⟨rfl, fun hS => hjn ?_⟩⟩
          · by_cases hn : l[i].Num = l[i - 1].Num + 1
            · have hb : ¬ l[i].Begin = l[i - 1].Begin + l[i - 1].Len := fun h => hjn ⟨hn, h⟩
              simp [hn, hb]
            · simp [hn]
          · have := hS.2 (i - 1) (by omega)
            simpa [show i - 1 + 1 = i by omega] using this
    · right
      refine ⟨.stop false, by simp [hk], .inr ⟨rfl, fun hS => hk (hS.1 i hlt)⟩⟩
  · have e : decide ((i : Int) < (l.length : Int)) = false := by simp; omega
    right
    exact ⟨.go (), by simp only [e, cond_false], .inl ⟨rfl, fun j h => hok j h (by omega), fun j h => hj j h (by omega)⟩⟩
open Classical in
theorem stream_eq (l : List S_api_Segment) (hl : l.length ≤ 4294967296) (n : Nat) (hn : l.length < n) : playlist_stream n l = some (decide (Strm l ∧ l.length ≤ 1000)) := by
  unfold playlist_stream
  obtain ⟨r, e, h⟩ := stream_loop l hl n hn
  rw [e]
  rcases h with ⟨rfl, h⟩ | ⟨rfl, h⟩
  · have e1 : ((l.length : Int) ≤ 1000) ↔ (Strm l ∧ l.length ≤ 1000) := ⟨fun q => ⟨h, by omega⟩, fun q => by have := q.2; omega⟩
    simp only [bindJ_go, e1]
  · have e1 : ¬ (Strm l ∧ l.length ≤ 1000) := fun q => h q.1
    simp only [bindJ_stop, e1, decide_false]
end Go.Proofs.YtbgpojdmdnkeaaaGreatDoor
namespace Go.Proofs.YtbgpojdmdnkeaaaGreatDoor
open Go.Abs
set_option linter.unusedSimpArgs false
set_option linter.unusedVariables false
def gi (l : List Int) (i : Nat) : Int := (l[i]?).getD 0
def gl (a : List (List Int)) (k : Nat) : List Int := (a[k]?).getD []
theorem gi_at {l : List Int} {i : Nat} (h : i < l.length) : l[i]? = some (gi l i) := by unfold gi; rw [List.getElem?_eq_getElem h]; rfl
theorem gl_at {a : List (List Int)} {k : Nat} (h : k < a.length) : a[k]? = some (gl a k) := by unfold gl; rw [List.getElem?_eq_getElem h]; rfl
theorem gi_get {l : List Int} {i : Nat} (h : i < l.length) : gi l i = l[i] := by unfold gi; rw [List.getElem?_eq_getElem h]; rfl
theorem gi_set_eq {l : List Int} {i : Nat} (h : i < l.length) (v : Int) : gi (l.set i v) i = v := by unfold gi; rw [List.getElem?_set_self h]; rfl
theorem gi_set_ne {l : List Int} {i j : Nat} (h : i ≠ j) (v : Int) : gi (l.set i v) j = gi l j := by unfold gi; rw [List.getElem?_set_ne h]
theorem gl_set_eq {l : List (List Int)} {i : Nat} (h : i < l.length) (v : List Int) : gl (l.set i v) i = v := by unfold gl; rw [List.getElem?_set_self h]; rfl
theorem gl_set_ne {l : List (List Int)} {i j : Nat} (h : i ≠ j) (v : List Int) : gl (l.set i v) j = gl l j := by unfold gl; rw [List.getElem?_set_ne h]
/-- the greatest so far -/
def Pmx (f : Nat → Int) (a : List Int) (N : Nat) : Prop := a.length = N ∧ (0 < N → gi a 0 = f 0) ∧ ∀ i, i + 1 < N → gi a (i + 1) = max (f (i + 1)) (gi a i)
theorem Pmx.uniq {f : Nat → Int} {a b : List Int} {N : Nat} (h : Pmx f a N) (k : Pmx f b N) : a = b := by
  have e : ∀ i, i < N → gi a i = gi b i := by
    intro i
    induction i with
    | zero => intro hi; rw [h.2.1 hi, k.2.1 hi]
    | succ i ih => intro hi; rw [h.2.2 i hi, k.2.2 i hi, ih (by omega)]
  apply List.ext_getElem (h.1.trans k.1.symm)
  intro i h1 h2
  have := e i (by rw [← h.1]; exact h1)
  rwa [gi_get h1, gi_get h2] at this
theorem Pmx.bounds {f : Nat → Int} {a : List Int} {N : Nat} (h : Pmx f a N) {B : Int} (hf : ∀ i, i < N → 0 ≤ f i ∧ f i ≤ B) : ∀ i, i < N → 0 ≤ gi a i ∧ gi a i ≤ B := by
  intro i
  induction i with
  | zero => intro hi; rw [h.2.1 hi]; exact hf 0 hi
  | succ i ih => intro hi; have h1 := ih (by omega); have h2 := hf (i + 1) hi; have := h.2.2 i hi; omega
def arrStep {R : Type} (N : Int) (g : Int → Option Int) : (Int × List Int) → Option (Lp (Int × (List Int)) (Lp ((List Int)) R)) :=
 fun (s_8, x_9) =>
  cond (decide (s_8 < N))
   (bindJ (S := (List Int))
    (obind (g s_8) fun r20 =>
    idx x_9 s_8 fun x22 =>
    cond (decide (0 < s_8))
     (idx (x_9.set s_8.toNat r20) (IntKind.i64.wrap (s_8 - 1)) fun x25 =>
     some (.go ((x_9.set s_8.toNat r20).set s_8.toNat (max r20 x25))))
     (some (.go (x_9.set s_8.toNat r20))))
   (fun x_15 =>
    some (.go ((IntKind.i64.wrap (s_8 + 1)), x_15))))
   (some (.stop (.go x_9)))
theorem arr_loop {R : Type} (N : Nat) (hN : N ≤ 1000000) (g : Int → Option Int) (f : Nat → Int) (hg : ∀ i : Nat, i < N → g (i : Int) = some (f i)) (n : Nat) (hn : N < n) :
    ∃ a, iter (arrStep (R := R) (N : Int) g) n (0, List.replicate ((N : Int)).toNat (0 : Int)) = some (.go a) ∧ Pmx f a N := by
  obtain ⟨r, e, a, h1, h2⟩ := iter_inv (step := arrStep (R := R) (N : Int) g) (fun s => ∃ (i : Nat) (x : List Int), s = ((i : Int), x) ∧ i ≤ N ∧ x.length = N ∧ (0 < i → gi x 0 = f 0) ∧ ∀ j, j + 1 < i → gi x (j + 1) = max (f (j + 1)) (gi x j)) (fun s => N - s.1.toNat) (fun r => ∃ a, r = .go a ∧ Pmx f a N) (by
    rintro s ⟨i, x, rfl, hi, hx, h0, hj⟩
    unfold arrStep
    by_cases hlt : i < N
    · have e : decide ((i : Int) < (N : Int)) = true := decide_eq_true (by omega)
      simp only [e, cond_true]
      rw [hg i hlt]
      simp only [obind, Option.bind_some]
      rw [idx_get (gi_at (l := x) (i := i) (by omega))]
      left
      by_cases hz : i = 0
      · subst hz
        refine ⟨((1 : Nat), x.set 0 (f 0)), rfl, ⟨1, x.set 0 (f 0), rfl, by omega, by simp [hx], fun _ => gi_set_eq (by omega) _, fun j hj' => by omega⟩, by simp; omega⟩
      · have e1 : decide ((0 : Int) < (i : Int)) = true := decide_eq_true (by omega)
        simp only [e1, cond_true, Int.toNat_natCast]
        rw [w64 (x := (i : Int) - 1) (by omega) (by omega), show (i : Int) - 1 = ((i - 1 : Nat) : Int) by omega, idx_get (gi_at (l := x.set i (f i)) (i := i - 1) (by simp; omega)), gi_set_ne (by omega), bindJ_go,
          w64 (x := (i : Int) + 1) (by omega) (by omega)]
        refine ⟨_, rfl, ⟨i + 1, (x.set i (f i)).set i (max (f i) (gi x (i - 1))), rfl, by omega, by simp [hx], fun _ => ?_, fun j hj' => ?_⟩, by simp; omega⟩
        · rw [gi_set_ne (by omega), gi_set_ne (by omega)]; exact h0 (by omega)
        · by_cases e2 : j + 1 = i
          · subst e2
            rw [gi_set_eq (by simp; omega), gi_set_ne (by omega), gi_set_ne (by omega), Nat.add_sub_cancel]
          · rw [gi_set_ne (by omega), gi_set_ne (by omega), gi_set_ne (by omega), gi_set_ne (by omega)]
            exact hj j (by omega)
    · have e : decide ((i : Int) < (N : Int)) = false := decide_eq_false (by omega)
      obtain rfl : i = N := by omega
      right
      exact ⟨_, by simp only [e, cond_false], x, rfl, hx, h0, hj⟩) n (0, List.replicate ((N : Int)).toNat (0 : Int)) ⟨0, _, rfl, by omega, by simp, fun h => by omega, fun j h => by omega⟩ (by simpa using hn)
  exact ⟨a, by rw [e, h1], h2⟩
def sEnd (l : List S_api_Segment) (i : Nat) : Int := ((l[i]?).map fun s => s.Begin + s.Len).getD 0
theorem sEnd_at {l : List S_api_Segment} {i : Nat} (h : i < l.length) : sEnd l i = l[i].Begin + l[i].Len := by unfold sEnd; rw [List.getElem?_eq_getElem h]; rfl
theorem sEnd_bounds {l : List S_api_Segment} (hs : Strm l) {i : Nat} (h : i < l.length) : 0 ≤ sEnd l i ∧ sEnd l i ≤ 2199023255552 := by
  have := hs.1 i h
  unfold okSeg at this
  rw [sEnd_at h]; omega
theorem end_get {l : List S_api_Segment} (hs : Strm l) {i : Nat} (h : i < l.length) : playlist_end l[i] = some (sEnd l i) := by
  rw [end_eq (hs.1 i h), sEnd_at h]
theorem first_row {l : List S_api_Segment} (hs : Strm l) (hl : l.length ≤ 1000) (n : Nat) (hn : 1000 < n) (a : List (List Int)) (ha : 0 < a.length) :
    ∃ x, playlist_Spread_1_58 n 0 l a = some (a.set 0 x) ∧ Pmx (sEnd l) x l.length := by
  unfold playlist_Spread_1_58
  rw [need_pos (by omega)]
  obtain ⟨x, e, h⟩ := arr_loop (R := List (List Int)) l.length (by omega) (fun s => playlist_Spread_2_59 s l) (sEnd l) (fun i hi => by
    unfold playlist_Spread_2_59
    rw [idx_get' hi, end_get hs hi]
    rfl) n (by omega)
  have e' : iter (playlist_Spread_1_58_L1 l) n (0, List.replicate ((l.length : Int)).toNat (0 : Int)) = some (.go x) := e
  rw [e', bindJ_go, show (0 : Int) = ((0 : Nat) : Int) from rfl, idx_get (gl_at ha)]
  exact ⟨x, rfl, h⟩
theorem next_row {N : Nat} (l : List S_api_Segment) (hl : l.length ≤ 1000) (delays a : List (List Int)) (k p : Nat) (hk : k < a.length) (hp : p < a.length) (hd : k < delays.length) (hpl : (gl a p).length = l.length) (hdl : (gl delays k).length = l.length)
    (hb : ∀ i, i < l.length → -4611686018427387904 ≤ gi (gl a p) i + gi (gl delays k) i ∧ gi (gl a p) i + gi (gl delays k) i ≤ 4611686018427387904) (n : Nat) (hn : 1000 < n) :
    ∃ x, playlist_Spread_1_58_v1 n (k : Int) a (p : Int) delays (k : Int) l = some (a.set k x) ∧ Pmx (fun i => gi (gl a p) i + gi (gl delays k) i) x l.length := by
  unfold playlist_Spread_1_58_v1
  rw [need_pos (by omega)]
  obtain ⟨x, e, h⟩ := arr_loop (R := List (List Int)) l.length (by omega) (fun s => playlist_Spread_4_63 s a (p : Int) delays (k : Int)) (fun i => gi (gl a p) i + gi (gl delays k) i) (fun i hi => by
    unfold playlist_Spread_4_63
    have := hb i hi
    rw [idx_get (gl_at hp), idx_get (gi_at (by omega)), idx_get (gl_at hd), idx_get (gi_at (by omega)), w64 (by omega) (by omega)]) n (by omega)
  have e' : iter (playlist_Spread_1_58_v1_L1 a (p : Int) delays (k : Int) l) n (0, List.replicate ((l.length : Int)).toNat (0 : Int)) = some (.go x) := e
  rw [e', bindJ_go, idx_get (gl_at hk)]
  exact ⟨x, rfl, h⟩
theorem bad_delay (l : List Int) (hl : l.length ≤ 1000000) (n : Nat) (hn : l.length < n) : slices_ContainsFunc_int_int_61 n l = some (l.any fun d => decide (d < 0) || decide (1099511627776 < d)) := by
  unfold slices_ContainsFunc_int_int_61 slices_IndexFunc_int_int_65
  have key := iter_fold (l := l) (step := slices_IndexFunc_int_int_65_L1 l) (fun i (_ : Nat) => (i : Int)) (fun (i : Nat) d => cond (decide (d < 0) || decide (1099511627776 < d)) (.stop (.stop (i : Int))) (.go (i + 1))) (fun _ => .go ()) (fun i j => i = j) (by
    rintro i j x rfl hx
    obtain ⟨hi, rfl⟩ := List.getElem?_eq_some_iff.1 hx
    unfold slices_IndexFunc_int_int_65_L1 playlist_Spread_3_62
    have e : decide ((i : Int) < (l.length : Int)) = true := decide_eq_true (by omega)
    simp only [e, cond_true]
    rw [idx_get' hi]
    simp only [obind, Option.bind_some]
    cases decide (l[i] < 0) || decide (1099511627776 < l[i])
    · simp only [cond_false, mapS_go]
      rw [w64 (by omega) (by omega)]
      exact ⟨rfl, fun s' hs => by cases hs; rfl⟩
    · exact ⟨rfl, fun s' hs => by cases hs⟩) (by
    intro s hs
    unfold slices_IndexFunc_int_int_65_L1
    simp) n 0 0 rfl (Nat.zero_le _) (by omega)
  have e : iter (slices_IndexFunc_int_int_65_L1 l) n 0 = _ := key
  rw [e, List.drop_zero]
  have gen : ∀ (l : List Int) (k : Nat), ∃ r, foldL (fun (i : Nat) d => cond (decide (d < 0) || decide (1099511627776 < d)) (Lp.stop (.stop (i : Int))) (.go (i + 1))) (fun _ => (.go () : Lp Unit Int)) k l = r ∧ ((r = .go () ∧ (l.any fun d => decide (d < 0) || decide (1099511627776 < d)) = false) ∨ (∃ j : Nat, r = .stop (j : Int)) ∧ (l.any fun d => decide (d < 0) || decide (1099511627776 < d)) = true) := by
    intro l
    induction l with
    | nil => intro k; exact ⟨_, rfl, .inl ⟨rfl, rfl⟩⟩
    | cons x r ih =>
      intro k
      unfold foldL
      rw [List.any_cons]
      cases decide (x < 0) || decide (1099511627776 < x)
      · simpa using ih (k + 1)
      · exact ⟨_, rfl, .inr ⟨⟨k, rfl⟩, rfl⟩⟩
  obtain ⟨r, e, h⟩ := gen l 0
  rw [e]
  rcases h with ⟨rfl, h⟩ | ⟨⟨j, rfl⟩, h⟩
  · rw [h]; rfl
  · rw [h]; simp [obind]
/-- places and delays are as they must be -/
def TreeAt (N : Nat) (parents : List Int) (delays : List (List Int)) (k : Nat) : Prop := 0 ≤ gi parents k ∧ gi parents k < k ∧ (gl delays k).length = N ∧ ∀ d ∈ gl delays k, 0 ≤ d ∧ d ≤ 1099511627776
def Tree (N : Nat) (parents : List Int) (delays : List (List Int)) : Prop := 1 ≤ parents.length ∧ parents.length ≤ 100 ∧ delays.length = parents.length ∧ ∀ k, 1 ≤ k → k < parents.length → TreeAt N parents delays k
def SprTo (l : List S_api_Segment) (parents : List Int) (delays out : List (List Int)) (K : Nat) : Prop :=
  Pmx (sEnd l) (gl out 0) l.length ∧ ∀ k, 1 ≤ k → k < K → Pmx (fun i => gi (gl out (gi parents k).toNat) i + gi (gl delays k) i) (gl out k) l.length
def Spr (l : List S_api_Segment) (parents : List Int) (delays out : List (List Int)) : Prop := out.length = parents.length ∧ SprTo l parents delays out parents.length
theorem spr_bounds {l : List S_api_Segment} (hs : Strm l) {parents : List Int} {delays out : List (List Int)} {K : Nat} (hT : ∀ k, 1 ≤ k → k < K → TreeAt l.length parents delays k) (h : SprTo l parents delays out K) :
    ∀ k, k < K → ∀ i, i < l.length → 0 ≤ gi (gl out k) i ∧ gi (gl out k) i ≤ 2199023255552 + 1099511627776 * (k : Int) := by
  intro k
  induction k using Nat.strongRecOn with
  | _ k ih =>
    intro hk
    by_cases h0 : k = 0
    · subst h0
      intro i hi
      have := h.1.bounds (B := 2199023255552) (fun i hi => sEnd_bounds hs hi) i hi
      omega
    · obtain ⟨t1, t2, t3, t4⟩ := hT k (by omega) hk
      refine (h.2 k (by omega) hk).bounds (fun i hi => ?_)
      have h1 := ih (gi parents k).toNat (by omega) (by omega) i hi
      have h2 := t4 (gi (gl delays k) i) (by rw [gi_get (by omega)]; exact List.getElem_mem _)
      omega
theorem sprTo_set {l : List S_api_Segment} {parents : List Int} {delays out : List (List Int)} {k : Nat} (hk : 1 ≤ k) (hl : k < out.length) (hT : ∀ j, 1 ≤ j → j < k + 1 → gi parents j < j ∧ 0 ≤ gi parents j) (h : SprTo l parents delays out k) {x : List Int}
    (hx : Pmx (fun i => gi (gl out (gi parents k).toNat) i + gi (gl delays k) i) x l.length) : SprTo l parents delays (out.set k x) (k + 1) := by
  refine ⟨by rw [gl_set_ne (by omega)]; exact h.1, fun j hj hjk => ?_⟩
  have hp := hT j hj hjk
  rw [gl_set_ne (i := k) (j := (gi parents j).toNat) (by omega)]
  by_cases e : j = k
  · subst e; rw [gl_set_eq hl]; exact hx
  · rw [gl_set_ne (by omega)]; exact h.2 j hj (by omega)
theorem spread_loop (l : List S_api_Segment) (hs : Strm l) (hl : l.length ≤ 1000) (parents : List Int) (delays : List (List Int)) (hp : parents.length ≤ 100) (hd : delays.length = parents.length) (hdl : ∀ d ∈ delays, d.length ≤ 1000000)
    (out : List (List Int)) (ho : out.length = parents.length) (h1 : SprTo l parents delays out 1) (hpos : 1 ≤ parents.length) (n : Nat) (hn : 2000000 < n) :
    ∃ r, iter (playlist_Spread_L1 n l parents delays) n (1, out) = some r ∧ ((∃ o, r = .go o ∧ Spr l parents delays o ∧ ∀ k, 1 ≤ k → k < parents.length → TreeAt l.length parents delays k) ∨ (r = .stop ([], 1) ∧ ¬ ∀ k, 1 ≤ k → k < parents.length → TreeAt l.length parents delays k)) := by
  refine iter_inv (step := playlist_Spread_L1 n l parents delays) (fun s => ∃ (k : Nat) (o : List (List Int)), s = ((k : Int), o) ∧ 1 ≤ k ∧ k ≤ parents.length ∧ o.length = parents.length ∧ SprTo l parents delays o k ∧ ∀ j, 1 ≤ j → j < k → TreeAt l.length parents delays j) (fun s => parents.length - s.1.toNat) _ ?_ n (1, out) ⟨1, out, rfl, by omega, hpos, ho, h1, fun j a b => by omega⟩ (by simp; omega)
  rintro s ⟨k, o, rfl, hk1, hk, hol, hS, hT⟩
  unfold playlist_Spread_L1
  by_cases hlt : k < parents.length
  · have e : decide ((k : Int) < (parents.length : Int)) = true := decide_eq_true (by omega)
    simp only [e, cond_true]
    rw [idx_get (gi_at hlt)]
    have bad : ∀ h : ¬ TreeAt l.length parents delays k, ¬ ∀ k, 1 ≤ k → k < parents.length → TreeAt l.length parents delays k := fun h q => h (q k hk1 hlt)
    by_cases hr : gi parents k < 0 ∨ (k : Int) ≤ gi parents k
    · have e1 : (decide (gi parents k < 0) || decide ((k : Int) ≤ gi parents k)) = true := by simp only [Bool.or_eq_true, decide_eq_true_eq]; exact hr
      right
      refine ⟨.stop ([], 1), ?_, .inr ⟨rfl, bad fun q => ?_⟩⟩
      · simp only [e1, cond_true, bindJ_go]
      · have := q.1; have := q.2.1; omega
    · have e1 : (decide (gi parents k < 0) || decide ((k : Int) ≤ gi parents k)) = false := by
        rw [Bool.eq_false_iff]; intro h; simp only [Bool.or_eq_true, decide_eq_true_eq] at h; exact hr h
      simp only [e1, cond_false]
      have hkd : k < delays.length := by omega
      have hdk := hdl (gl delays k) (by unfold gl; rw [List.getElem?_eq_getElem hkd]; exact List.getElem_mem _)
      rw [idx_get (gl_at hkd), bindJ_go]
      by_cases hq : (gl delays k).length = l.length
      · have e2 : decide (((gl delays k).length : Int) ≠ (l.length : Int)) = false := decide_eq_false (by omega)
        simp only [e2, cond_false]
        rw [idx_get (gl_at hkd), bad_delay _ hdk n (by omega)]
        simp only [obind, Option.bind_some, bindJ_go]
        cases ha : (gl delays k).any fun d => decide (d < 0) || decide (1099511627776 < d) with
        | true =>
          right
          refine ⟨.stop ([], 1), rfl, .inr ⟨rfl, bad fun q => ?_⟩⟩
          obtain ⟨d, hd1, hd2⟩ := List.any_eq_true.1 ha
          have := q.2.2.2 d hd1
          simp only [Bool.or_eq_true, decide_eq_true_eq] at hd2
          omega
        | false =>
          have hT' : TreeAt l.length parents delays k := by
            refine ⟨by omega, by omega, hq, fun d hd' => ?_⟩
            have := List.any_eq_false.1 ha d hd'
            simp only [Bool.or_eq_true, decide_eq_true_eq] at this
            omega
          have hTk : ∀ j, 1 ≤ j → j < k + 1 → TreeAt l.length parents delays j := fun j a b => by
            by_cases ej : j = k
            · subst ej; exact hT'
            · exact hT j a (by omega)
          have hpk : (gi parents k).toNat < k := by have := hT'.1; have := hT'.2.1; omega
          have hplen : (gl o (gi parents k).toNat).length = l.length := by
            by_cases e0 : (gi parents k).toNat = 0
            · rw [e0]; exact hS.1.1
            · exact (hS.2 _ (by omega) hpk).1
          have hbd := spr_bounds hs hT hS (gi parents k).toNat hpk
          obtain ⟨x, e3, hx⟩ := next_row (N := 0) l hl delays o k (gi parents k).toNat (by omega) (by omega) hkd hplen hq (fun i hi => by
            have a1 := hbd i hi
            have a2 := hT'.2.2.2 (gi (gl delays k) i) (by rw [gi_get (by omega)]; exact List.getElem_mem _)
            omega) n (by omega)
          rw [show (((gi parents k).toNat : Nat) : Int) = gi parents k by have := hT'.1; omega] at e3
          left
          refine ⟨(((k + 1 : Nat) : Int), o.set k x), ?_, ⟨k + 1, o.set k x, rfl, by omega, by omega, by simp [hol], sprTo_set hk1 (by omega) (fun j a b => ⟨(hTk j a b).2.1, (hTk j a b).1⟩) hS hx, hTk⟩, by simp; omega⟩
          simp only [cond_false]
          rw [e3, w64 (by omega) (by omega)]; rfl
      · have e2 : decide (((gl delays k).length : Int) ≠ (l.length : Int)) = true := decide_eq_true (by omega)
        right
        refine ⟨.stop ([], 1), ?_, .inr ⟨rfl, bad fun q => hq q.2.2.1⟩⟩
        simp only [e2, cond_true, bindJ_go]
  · have e : decide ((k : Int) < (parents.length : Int)) = false := decide_eq_false (by omega)
    obtain rfl : k = parents.length := by omega
    right
    exact ⟨_, by simp only [e, cond_false], .inl ⟨o, rfl, ⟨hol, hS⟩, hT⟩⟩
open Classical in
theorem spread_eq (l : List S_api_Segment) (hl : l.length ≤ 1000) (parents : List Int) (delays : List (List Int)) (hdl : ∀ d ∈ delays, d.length ≤ 1000000) (n : Nat) (hn : 2000000 < n) :
    ∃ r, playlist_Spread n l parents delays = some r ∧ ((r.2 = 0 ∧ Strm l ∧ Tree l.length parents delays ∧ Spr l parents delays r.1) ∨ (r = ([], 1) ∧ ¬ (Strm l ∧ Tree l.length parents delays))) := by
  unfold playlist_Spread
  rw [stream_eq l (by omega) n (by omega)]
  simp only [obind, Option.bind_some]
  by_cases hs : Strm l ∧ l.length ≤ 1000
  · simp only [decide_eq_true hs, Bool.not_true, Bool.false_or]
    by_cases hc : parents.length < 1 ∨ 100 < parents.length ∨ delays.length ≠ parents.length
    · have e : ((decide ((parents.length : Int) < 1) || decide (100 < (parents.length : Int))) || decide ((delays.length : Int) ≠ (parents.length : Int))) = true := by
        simp only [Bool.or_eq_true, decide_eq_true_eq]; omega
      rw [e, cond_true]
      exact ⟨_, rfl, .inr ⟨rfl, fun h => by obtain ⟨_, a, b, c, _⟩ := h; omega⟩⟩
    · have e : ((decide ((parents.length : Int) < 1) || decide (100 < (parents.length : Int))) || decide ((delays.length : Int) ≠ (parents.length : Int))) = false := by
        rw [Bool.eq_false_iff]; intro h; simp only [Bool.or_eq_true, decide_eq_true_eq] at h; omega
      rw [e, cond_false, need_pos (by omega)]
      obtain ⟨x, e1, hx⟩ := first_row hs.1 hs.2 n (by omega) (List.replicate ((parents.length : Int)).toNat ([] : List Int)) (by simp; omega)
      rw [e1]
      simp only [Option.bind_some]
      obtain ⟨r, e2, h⟩ := spread_loop l hs.1 hl parents delays (by omega) (by omega) hdl ((List.replicate ((parents.length : Int)).toNat ([] : List Int)).set 0 x) (by simp) ⟨by rw [gl_set_eq (by simp; omega)]; exact hx, fun k a b => by omega⟩ (by omega) n hn
      rw [e2]
      rcases h with ⟨o, rfl, h1, h2⟩ | ⟨rfl, h⟩
      · exact ⟨_, rfl, .inl ⟨rfl, hs.1, ⟨by omega, by omega, by omega, h2⟩, h1⟩⟩
      · exact ⟨_, rfl, .inr ⟨rfl, fun q => h q.2.2.2.2⟩⟩
  · simp only [decide_eq_false hs, Bool.not_false, Bool.true_or, cond_true]
    exact ⟨_, rfl, .inr ⟨rfl, fun q => hs ⟨q.1, hl⟩⟩⟩
end Go.Proofs.YtbgpojdmdnkeaaaGreatDoor
namespace Go.Proofs.YtbgpojdmdnkeaaaGreatDoor
open Go.Abs
set_option linter.unusedSimpArgs false
set_option linter.unusedVariables false
/-- how many have arrived at an instant -/
def cnt (a : List Int) (t : Int) : Nat := (a.takeWhile fun x => decide (x ≤ t)).length
theorem cnt_le (a : List Int) (t : Int) : cnt a t ≤ a.length := List.Sublist.length_le (List.takeWhile_sublist _)
theorem cnt_cons (x : Int) (r : List Int) (t : Int) : cnt (x :: r) t = if x ≤ t then cnt r t + 1 else 0 := by
  unfold cnt
  rw [List.takeWhile_cons]
  by_cases h : x ≤ t <;> simp [h]
theorem cnt_lt : ∀ (a : List Int) (t : Int) (i : Nat), i < cnt a t → gi a i ≤ t
  | [], t, i, h => by simp [cnt] at h
  | x :: r, t, i, h => by
    rw [cnt_cons] at h
    split at h
    · rename_i hx
      cases i with
      | zero => exact hx
      | succ i => exact cnt_lt r t i (by omega)
    · omega
theorem cnt_at : ∀ (a : List Int) (t : Int), cnt a t < a.length → t < gi a (cnt a t)
  | [], t, h => by simp at h
  | x :: r, t, h => by
    rw [cnt_cons] at h ⊢
    split
    · rename_i hx
      rw [if_pos hx] at h
      exact cnt_at r t (by simpa using h)
    · rename_i hx
      show t < x
      omega
theorem seen_idx (a : List Int) (ha : a.length ≤ 1000000) (t : Int) (n : Nat) (hn : a.length < n) : slices_IndexFunc_int_int_65_v1 n a t = some (if cnt a t = a.length then -1 else ((cnt a t : Nat) : Int)) := by
  unfold slices_IndexFunc_int_int_65_v1
  have key := iter_fold (l := a) (step := slices_IndexFunc_int_int_65_v1_L1 a t) (fun i (_ : Nat) => (i : Int)) (fun (i : Nat) d => cond (decide (t < d)) (.stop (.stop (i : Int))) (.go (i + 1))) (fun _ => .go ()) (fun i j => i = j) (by
    rintro i j x rfl hx
    obtain ⟨hi, rfl⟩ := List.getElem?_eq_some_iff.1 hx
    unfold slices_IndexFunc_int_int_65_v1_L1 playlist_Seen_1_66
    have e : decide ((i : Int) < (a.length : Int)) = true := decide_eq_true (by omega)
    simp only [e, cond_true]
    rw [idx_get' hi]
    simp only [obind, Option.bind_some]
    cases decide (t < a[i])
    · simp only [cond_false, mapS_go]
      rw [w64 (by omega) (by omega)]
      exact ⟨rfl, fun s' hs => by cases hs; rfl⟩
    · exact ⟨rfl, fun s' hs => by cases hs⟩) (by
    intro s hs
    unfold slices_IndexFunc_int_int_65_v1_L1
    simp) n 0 0 rfl (Nat.zero_le _) (by omega)
  have e : iter (slices_IndexFunc_int_int_65_v1_L1 a t) n 0 = _ := key
  rw [e, List.drop_zero]
  have gen : ∀ (l : List Int) (k : Nat), foldL (fun (i : Nat) d => cond (decide (t < d)) (Lp.stop (.stop (i : Int))) (.go (i + 1))) (fun _ => (.go () : Lp Unit Int)) k l = if cnt l t = l.length then .go () else .stop ((k + cnt l t : Nat) : Int) := by
    intro l
    induction l with
    | nil => intro k; rfl
    | cons x r ih =>
      intro k
      unfold foldL
      rw [cnt_cons]
      by_cases h : x ≤ t
      · rw [if_pos h, decide_eq_false (by omega), cond_false]
        simp only
        rw [ih]
        by_cases h' : cnt r t = r.length
        · rw [if_pos h', if_pos (by simp [h'])]
        · rw [if_neg h', if_neg (by simp; omega)]
          congr 2
          omega
      · rw [if_neg h, decide_eq_true (by omega), cond_true, if_neg (by simp)]
        rfl
  rw [gen a 0]
  by_cases h : cnt a t = a.length
  · simp only [h, if_true, bindJ_go]
  · simp only [h, if_false, bindJ_stop, Nat.zero_add]
theorem cut_id (p : S_api_Playlist) (w : Int) (hw0 : 0 ≤ w) (hw : w ≤ 1000000) (hl : p.L.length ≤ 1000000) (hf : -4611686018427387904 ≤ p.First ∧ p.First ≤ 4611686018427387904) :
    playlist_cut p w = some ⟨p.First + max 0 ((p.L.length : Int) - w), p.L.drop (max 0 ((p.L.length : Int) - w)).toNat, p.Done⟩ := by
  unfold playlist_cut
  rw [w64 (x := (p.L.length : Int) - w) (by omega) (by omega), need_pos (by omega), w64 (by omega) (by omega)]
theorem clone_eq (l : List S_api_Segment) (h : l.length ≤ 4294967296) : slices_Clone_weirgate_api_Segment_weirgate_api_Segment_40 l = some l := by
  unfold slices_Clone_weirgate_api_Segment_weirgate_api_Segment_40
  rw [need_pos (by simpa using h)]; rfl
/-- what is seen, before it is cut -/
def seenP (l : List S_api_Segment) (a : List Int) (t : Int) : S_api_Playlist := ⟨((l[0]?).map (·.Num)).getD 0, l.take (cnt a t), false⟩
theorem seen_eq {l : List S_api_Segment} (hs : Strm l) (hl : l.length ≤ 1000) (a : List Int) (ha : a.length = l.length) (t w : Int) (hw0 : 0 ≤ w) (hw : w ≤ 1000000) (n : Nat) (hn : 1000 < n) : playlist_Seen n l a t w = playlist_cut (seenP l a t) w := by
  unfold playlist_Seen
  rw [seen_idx a (by omega) t n (by omega)]
  have hc := cnt_le a t
  simp only [obind, Option.bind_some]
  have e1 : bindJ (S := Int) (R := S_api_Playlist) (cond (decide ((if cnt a t = a.length then -1 else ((cnt a t : Nat) : Int)) < 0)) (some (.go (l.length : Int))) (some (.go (if cnt a t = a.length then -1 else ((cnt a t : Nat) : Int))))) = fun k => k ((cnt a t : Nat) : Int) := by
    funext k
    by_cases h : cnt a t = a.length
    · simp only [h, if_true, ha]; rfl
    · simp only [h, if_false]
      rw [decide_eq_false (by omega)]; rfl
  rw [e1]
  simp only
  have hb : -4611686018427387904 ≤ (seenP l a t).First ∧ (seenP l a t).First ≤ 4611686018427387904 := by
    unfold seenP
    by_cases h0 : 0 < l.length
    · have := hs.1 0 h0
      unfold okSeg at this
      simp only [List.getElem?_eq_getElem h0, Option.map_some, Option.getD_some]; omega
    · rw [List.getElem?_eq_none (by omega)]; simp
  have hcut := cut_id (seenP l a t) w hw0 hw (by unfold seenP; simp; omega) hb
  by_cases h0 : 0 < l.length
  · have e : decide ((0 : Int) < (l.length : Int)) = true := decide_eq_true (by omega)
    simp only [e, cond_true]
    rw [show (0 : Int) = ((0 : Nat) : Int) from rfl, idx_get' h0, need_pos (by omega), clone_eq _ (by simp; omega)]
    simp only [Option.bind_some, bindJ_go, Int.toNat_natCast]
    have : (⟨l[0].Num, l.take (cnt a t), false⟩ : S_api_Playlist) = seenP l a t := by unfold seenP; rw [List.getElem?_eq_getElem h0]; rfl
    rw [this, hcut]; rfl
  · have e : decide ((0 : Int) < (l.length : Int)) = false := decide_eq_false (by omega)
    simp only [e, cond_false, bindJ_go]
    have : (⟨0, [], false⟩ : S_api_Playlist) = seenP l a t := by
      obtain rfl : l = [] := List.length_eq_zero_iff.1 (by omega)
      unfold seenP
      simp
    rw [this, hcut]; rfl
end Go.Proofs.YtbgpojdmdnkeaaaGreatDoor
namespace Go.Proofs.YtbgpojdmdnkeaaaGreatDoor
open Go.Abs
set_option linter.unusedSimpArgs false
set_option linter.unusedVariables false
/-- what one playlist has, the other has, too, or does not speak of it -/
def Agree (e l : S_api_Playlist) : Prop := ∀ i (hi : i < e.L.length) j (hj : j < l.L.length), e.L[i].Num = l.L[j].Num → l.L[j] = e.L[i]
def cutP (p : S_api_Playlist) (w : Int) : S_api_Playlist := ⟨p.First + max 0 ((p.L.length : Int) - w), p.L.drop (max 0 ((p.L.length : Int) - w)).toNat, p.Done⟩
end Go.Proofs.YtbgpojdmdnkeaaaGreatDoor
namespace Go.Proofs.YtbgpojdmdnkeaaaGreatDoor
open Go.Abs
set_option linter.unusedSimpArgs false
set_option linter.unusedVariables false
end Go.Proofs.YtbgpojdmdnkeaaaGreatDoor
namespace Go.Proofs.YtbgpojdmdnkeaaaGreatDoor
open Go.Abs
set_option linter.unusedSimpArgs false
set_option linter.unusedVariables false
end Go.Proofs.YtbgpojdmdnkeaaaGreatDoor
namespace Go.Proofs.YtbgpojdmdnkeaaaGreatDoor
open Go.Abs
set_option linter.unusedSimpArgs false
set_option linter.unusedVariables false
end Go.Proofs.YtbgpojdmdnkeaaaGreatDoor
namespace Go.Proofs.YtbgpojdmdnkeaaaGreatDoor
open Go.Abs
set_option linter.unusedSimpArgs false
set_option linter.unusedVariables false
/-! hexadecimal -/
/-! lines -/
end Go.Proofs.YtbgpojdmdnkeaaaGreatDoor
namespace Go.Proofs.YtbgpojdmdnkeaaaGreatDoor
open Go.Abs
set_option linter.unusedSimpArgs false
set_option linter.unusedVariables false
theorem same_refl (p : S_api_Playlist) (hl : p.L.length ≤ 4294967296) (n : Nat) (hn : p.L.length < n) : ref43_Same n p p = some true := by
  unfold ref43_Same
  have e : ((decide (p.First ≠ p.First) || (!(p.Done == p.Done))) || decide ((p.L.length : Int) ≠ (p.L.length : Int))) = false := by simp
  rw [e, cond_false]
  rw [iter_allgo (step := ref43_Same_L1 p p) p.L.length (.go ()) (fun i hi => by
    unfold ref43_Same_L1
    have e : decide ((i : Int) < (p.L.length : Int)) = true := by simpa using hi
    rw [e, cond_true, idx_get' hi, idx_get' hi]
    simp only [decide_true, Bool.and_true, Bool.not_true, cond_false]
    rw [w64 (by omega) (by omega)]; rfl) (by unfold ref43_Same_L1; simp) n hn]
  rfl
end Go.Proofs.YtbgpojdmdnkeaaaGreatDoor
namespace Go.Proofs.YtbgpojdmdnkeaaaGreatDoor
open Go.Abs
set_option linter.unusedVariables false
set_option linter.unusedSimpArgs false
set_option maxRecDepth 20000
set_option maxHeartbeats 4000000

def ref43_Right (s_0 : S_api_Segment) : Option (Bool) :=
 some (((((((decide (0 ≤ s_0.Num) && decide (s_0.Num ≤ 1099511627776)) && decide (0 ≤ s_0.Begin)) && decide (s_0.Begin ≤ 1099511627776)) && decide (1 ≤ s_0.Len)) && decide (s_0.Len ≤ 60000)) && decide (0 ≤ s_0.Size)) && decide (s_0.Size ≤ 1099511627776))
theorem ref43_Right_ok (s_0 : S_api_Segment)  {r : Bool} (h : ref43_Right s_0 = some r) :
  Meets Tryz.prog 32 [.agg #[.int .i64 s_0.Num, .int .i64 s_0.Begin, .int .i64 s_0.Len, .int .u8 s_0.Body.a0_, .int .u8 s_0.Body.a1_, .int .u8 s_0.Body.a2_, .int .u8 s_0.Body.a3_, .int .u8 s_0.Body.a4_, .int .u8 s_0.Body.a5_, .int .u8 s_0.Body.a6_, .int .u8 s_0.Body.a7_, .int .u8 s_0.Body.a8_, .int .u8 s_0.Body.a9_, .int .u8 s_0.Body.a10_, .int .u8 s_0.Body.a11_, .int .u8 s_0.Body.a12_, .int .u8 s_0.Body.a13_, .int .u8 s_0.Body.a14_, .int .u8 s_0.Body.a15_, .int .i64 s_0.Size]] [] (fun v G => v = .bool r ∧ G = []) := by
 refine fn_of_run Tryz.func32 rfl Tryz.ntmps32 rfl (fun w0 o0 => ?_)
 refine run_seq ?_
 refine run_region' ?_
 refine ot rfl rfl (t_box rfl) ?_
 rintro _ _ ⟨b1, rfl, rfl⟩
 refine oy rfl rfl (y_assign rfl) ?_
 refine ops_nil ?_
 refine goes_code ?_
 refine run_seq ?_
 refine run_region' ?_
 refine oy rfl rfl (y_fieldAddr_box (sz := 0) Tryz.runUnderlying57 rfl Tryz.sizeOf3 rfl) ?_
 refine oy rfl rfl (y_load_box 0 Tryz.isAgg3 rfl rfl rfl) ?_
 refine oy rfl rfl (y_geq rfl rfl) ?_
 refine oy rfl rfl (y_move rfl) ?_
 refine ops_cut 4 (Bool) (fun σ => [(1, boxP b1 0), (10, .bool σ)]) (fun σ => [box b1 [.int .i64 s_0.Num, .int .i64 s_0.Begin, .int .i64 s_0.Len, .int .u8 s_0.Body.a0_, .int .u8 s_0.Body.a1_, .int .u8 s_0.Body.a2_, .int .u8 s_0.Body.a3_, .int .u8 s_0.Body.a4_, .int .u8 s_0.Body.a5_, .int .u8 s_0.Body.a6_, .int .u8 s_0.Body.a7_, .int .u8 s_0.Body.a8_, .int .u8 s_0.Body.a9_, .int .u8 s_0.Body.a10_, .int .u8 s_0.Body.a11_, .int .u8 s_0.Body.a12_, .int .u8 s_0.Body.a13_, .int .u8 s_0.Body.a14_, .int .u8 s_0.Body.a15_, .int .i64 s_0.Size]]) (fun σ => σ = (decide (0 ≤ s_0.Num) && decide (s_0.Num ≤ 1099511627776))) (fun L2 hL3 => ?_) ?_
 ·refine ops_split 6 (decide (0 ≤ s_0.Num)) rfl (fun hg4 => ?_) (fun hg4 => ?_)
  ·skip
   refine ops_y (wg 3 true 6 rfl rfl rfl rfl) rfl (y_fieldAddr_box (sz := 0) Tryz.runUnderlying57 rfl Tryz.sizeOf3 rfl) ?_
   refine ops_y (wg 3 true 6 rfl rfl rfl rfl) rfl (y_load_box 0 Tryz.isAgg3 rfl rfl rfl) ?_
   refine ops_y (wg 3 true 6 rfl rfl rfl rfl) rfl (y_leq rfl rfl) ?_
   refine oy rfl rfl (y_pick (b := true) rfl rfl) ?_
   refine ops_nil ?_
   exact goes_cut hL3 (decide (s_0.Num ≤ 1099511627776)) [0] (qv2 rfl rfl) (by decide) rfl (by rw [hg4]; simp)
  ·skip
   refine ops_no 3 true 6 rfl rfl rfl rfl rfl ?_
   refine ops_no 3 true 6 rfl rfl rfl rfl rfl ?_
   refine ops_no 3 true 6 rfl rfl rfl rfl rfl ?_
   refine oy rfl rfl (y_pick (b := false) rfl rfl) ?_
   refine ops_nil ?_
   exact goes_cut hL3 false [0] (qv2 rfl rfl) (by decide) rfl (by rw [hg4]; simp)
 rintro _ rfl
 refine oy rfl rfl (y_move rfl) ?_
 refine ops_cut 4 (Bool) (fun σ => [(1, boxP b1 0), (15, .bool σ)]) (fun σ => [box b1 [.int .i64 s_0.Num, .int .i64 s_0.Begin, .int .i64 s_0.Len, .int .u8 s_0.Body.a0_, .int .u8 s_0.Body.a1_, .int .u8 s_0.Body.a2_, .int .u8 s_0.Body.a3_, .int .u8 s_0.Body.a4_, .int .u8 s_0.Body.a5_, .int .u8 s_0.Body.a6_, .int .u8 s_0.Body.a7_, .int .u8 s_0.Body.a8_, .int .u8 s_0.Body.a9_, .int .u8 s_0.Body.a10_, .int .u8 s_0.Body.a11_, .int .u8 s_0.Body.a12_, .int .u8 s_0.Body.a13_, .int .u8 s_0.Body.a14_, .int .u8 s_0.Body.a15_, .int .i64 s_0.Size]]) (fun σ => σ = ((decide (0 ≤ s_0.Num) && decide (s_0.Num ≤ 1099511627776)) && decide (0 ≤ s_0.Begin))) (fun L5 hL6 => ?_) ?_
 ·refine ops_split 11 (decide (0 ≤ s_0.Num) && decide (s_0.Num ≤ 1099511627776)) rfl (fun hg7 => ?_) (fun hg7 => ?_)
  ·skip
   refine ops_y (wg 8 true 11 rfl rfl rfl rfl) rfl (y_fieldAddr_box (sz := 0) Tryz.runUnderlying57 rfl Tryz.sizeOf3 rfl) ?_
   refine ops_y (wg 8 true 11 rfl rfl rfl rfl) rfl (y_load_box 0 Tryz.isAgg3 rfl rfl rfl) ?_
   refine ops_y (wg 8 true 11 rfl rfl rfl rfl) rfl (y_geq rfl rfl) ?_
   refine oy rfl rfl (y_pick (b := true) rfl rfl) ?_
   refine ops_nil ?_
   exact goes_cut hL6 (decide (0 ≤ s_0.Begin)) [0] (qv2 rfl rfl) (by decide) rfl (by rw [hg7]; simp)
  ·skip
   refine ops_no 8 true 11 rfl rfl rfl rfl rfl ?_
   refine ops_no 8 true 11 rfl rfl rfl rfl rfl ?_
   refine ops_no 8 true 11 rfl rfl rfl rfl rfl ?_
   refine oy rfl rfl (y_pick (b := false) rfl rfl) ?_
   refine ops_nil ?_
   exact goes_cut hL6 false [0] (qv2 rfl rfl) (by decide) rfl (by rw [hg7]; simp)
 rintro _ rfl
 refine oy rfl rfl (y_move rfl) ?_
 refine ops_cut 4 (Bool) (fun σ => [(1, boxP b1 0), (20, .bool σ)]) (fun σ => [box b1 [.int .i64 s_0.Num, .int .i64 s_0.Begin, .int .i64 s_0.Len, .int .u8 s_0.Body.a0_, .int .u8 s_0.Body.a1_, .int .u8 s_0.Body.a2_, .int .u8 s_0.Body.a3_, .int .u8 s_0.Body.a4_, .int .u8 s_0.Body.a5_, .int .u8 s_0.Body.a6_, .int .u8 s_0.Body.a7_, .int .u8 s_0.Body.a8_, .int .u8 s_0.Body.a9_, .int .u8 s_0.Body.a10_, .int .u8 s_0.Body.a11_, .int .u8 s_0.Body.a12_, .int .u8 s_0.Body.a13_, .int .u8 s_0.Body.a14_, .int .u8 s_0.Body.a15_, .int .i64 s_0.Size]]) (fun σ => σ = (((decide (0 ≤ s_0.Num) && decide (s_0.Num ≤ 1099511627776)) && decide (0 ≤ s_0.Begin)) && decide (s_0.Begin ≤ 1099511627776))) (fun L8 hL9 => ?_) ?_
 ·refine ops_split 16 ((decide (0 ≤ s_0.Num) && decide (s_0.Num ≤ 1099511627776)) && decide (0 ≤ s_0.Begin)) rfl (fun hg10 => ?_) (fun hg10 => ?_)
  ·skip
   refine ops_y (wg 13 true 16 rfl rfl rfl rfl) rfl (y_fieldAddr_box (sz := 0) Tryz.runUnderlying57 rfl Tryz.sizeOf3 rfl) ?_
   refine ops_y (wg 13 true 16 rfl rfl rfl rfl) rfl (y_load_box 0 Tryz.isAgg3 rfl rfl rfl) ?_
   refine ops_y (wg 13 true 16 rfl rfl rfl rfl) rfl (y_leq rfl rfl) ?_
   refine oy rfl rfl (y_pick (b := true) rfl rfl) ?_
   refine ops_nil ?_
   exact goes_cut hL9 (decide (s_0.Begin ≤ 1099511627776)) [0] (qv2 rfl rfl) (by decide) rfl (by rw [hg10]; simp)
  ·skip
   refine ops_no 13 true 16 rfl rfl rfl rfl rfl ?_
   refine ops_no 13 true 16 rfl rfl rfl rfl rfl ?_
   refine ops_no 13 true 16 rfl rfl rfl rfl rfl ?_
   refine oy rfl rfl (y_pick (b := false) rfl rfl) ?_
   refine ops_nil ?_
   exact goes_cut hL9 false [0] (qv2 rfl rfl) (by decide) rfl (by rw [hg10]; simp)
 rintro _ rfl
 refine oy rfl rfl (y_move rfl) ?_
 refine ops_cut 4 (Bool) (fun σ => [(1, boxP b1 0), (25, .bool σ)]) (fun σ => [box b1 [.int .i64 s_0.Num, .int .i64 s_0.Begin, .int .i64 s_0.Len, .int .u8 s_0.Body.a0_, .int .u8 s_0.Body.a1_, .int .u8 s_0.Body.a2_, .int .u8 s_0.Body.a3_, .int .u8 s_0.Body.a4_, .int .u8 s_0.Body.a5_, .int .u8 s_0.Body.a6_, .int .u8 s_0.Body.a7_, .int .u8 s_0.Body.a8_, .int .u8 s_0.Body.a9_, .int .u8 s_0.Body.a10_, .int .u8 s_0.Body.a11_, .int .u8 s_0.Body.a12_, .int .u8 s_0.Body.a13_, .int .u8 s_0.Body.a14_, .int .u8 s_0.Body.a15_, .int .i64 s_0.Size]]) (fun σ => σ = ((((decide (0 ≤ s_0.Num) && decide (s_0.Num ≤ 1099511627776)) && decide (0 ≤ s_0.Begin)) && decide (s_0.Begin ≤ 1099511627776)) && decide (1 ≤ s_0.Len))) (fun L11 hL12 => ?_) ?_
 ·refine ops_split 21 (((decide (0 ≤ s_0.Num) && decide (s_0.Num ≤ 1099511627776)) && decide (0 ≤ s_0.Begin)) && decide (s_0.Begin ≤ 1099511627776)) rfl (fun hg13 => ?_) (fun hg13 => ?_)
  ·skip
   refine ops_y (wg 18 true 21 rfl rfl rfl rfl) rfl (y_fieldAddr_box (sz := 0) Tryz.runUnderlying57 rfl Tryz.sizeOf3 rfl) ?_
   refine ops_y (wg 18 true 21 rfl rfl rfl rfl) rfl (y_load_box 0 Tryz.isAgg3 rfl rfl rfl) ?_
   refine ops_y (wg 18 true 21 rfl rfl rfl rfl) rfl (y_geq rfl rfl) ?_
   refine oy rfl rfl (y_pick (b := true) rfl rfl) ?_
   refine ops_nil ?_
   exact goes_cut hL12 (decide (1 ≤ s_0.Len)) [0] (qv2 rfl rfl) (by decide) rfl (by rw [hg13]; simp)
  ·skip
   refine ops_no 18 true 21 rfl rfl rfl rfl rfl ?_
   refine ops_no 18 true 21 rfl rfl rfl rfl rfl ?_
   refine ops_no 18 true 21 rfl rfl rfl rfl rfl ?_
   refine oy rfl rfl (y_pick (b := false) rfl rfl) ?_
   refine ops_nil ?_
   exact goes_cut hL12 false [0] (qv2 rfl rfl) (by decide) rfl (by rw [hg13]; simp)
 rintro _ rfl
 refine oy rfl rfl (y_move rfl) ?_
 refine ops_cut 4 (Bool) (fun σ => [(1, boxP b1 0), (30, .bool σ)]) (fun σ => [box b1 [.int .i64 s_0.Num, .int .i64 s_0.Begin, .int .i64 s_0.Len, .int .u8 s_0.Body.a0_, .int .u8 s_0.Body.a1_, .int .u8 s_0.Body.a2_, .int .u8 s_0.Body.a3_, .int .u8 s_0.Body.a4_, .int .u8 s_0.Body.a5_, .int .u8 s_0.Body.a6_, .int .u8 s_0.Body.a7_, .int .u8 s_0.Body.a8_, .int .u8 s_0.Body.a9_, .int .u8 s_0.Body.a10_, .int .u8 s_0.Body.a11_, .int .u8 s_0.Body.a12_, .int .u8 s_0.Body.a13_, .int .u8 s_0.Body.a14_, .int .u8 s_0.Body.a15_, .int .i64 s_0.Size]]) (fun σ => σ = (((((decide (0 ≤ s_0.Num) && decide (s_0.Num ≤ 1099511627776)) && decide (0 ≤ s_0.Begin)) && decide (s_0.Begin ≤ 1099511627776)) && decide (1 ≤ s_0.Len)) && decide (s_0.Len ≤ 60000))) (fun L14 hL15 => ?_) ?_
 ·refine ops_split 26 ((((decide (0 ≤ s_0.Num) && decide (s_0.Num ≤ 1099511627776)) && decide (0 ≤ s_0.Begin)) && decide (s_0.Begin ≤ 1099511627776)) && decide (1 ≤ s_0.Len)) rfl (fun hg16 => ?_) (fun hg16 => ?_)
  ·skip
   refine ops_y (wg 23 true 26 rfl rfl rfl rfl) rfl (y_fieldAddr_box (sz := 0) Tryz.runUnderlying57 rfl Tryz.sizeOf3 rfl) ?_
   refine ops_y (wg 23 true 26 rfl rfl rfl rfl) rfl (y_load_box 0 Tryz.isAgg3 rfl rfl rfl) ?_
   refine ops_y (wg 23 true 26 rfl rfl rfl rfl) rfl (y_leq rfl rfl) ?_
   refine oy rfl rfl (y_pick (b := true) rfl rfl) ?_
   refine ops_nil ?_
   exact goes_cut hL15 (decide (s_0.Len ≤ 60000)) [0] (qv2 rfl rfl) (by decide) rfl (by rw [hg16]; simp)
  ·skip
   refine ops_no 23 true 26 rfl rfl rfl rfl rfl ?_
   refine ops_no 23 true 26 rfl rfl rfl rfl rfl ?_
   refine ops_no 23 true 26 rfl rfl rfl rfl rfl ?_
   refine oy rfl rfl (y_pick (b := false) rfl rfl) ?_
   refine ops_nil ?_
   exact goes_cut hL15 false [0] (qv2 rfl rfl) (by decide) rfl (by rw [hg16]; simp)
 rintro _ rfl
 refine oy rfl rfl (y_move rfl) ?_
 refine ops_cut 4 (Bool) (fun σ => [(1, boxP b1 0), (35, .bool σ)]) (fun σ => [box b1 [.int .i64 s_0.Num, .int .i64 s_0.Begin, .int .i64 s_0.Len, .int .u8 s_0.Body.a0_, .int .u8 s_0.Body.a1_, .int .u8 s_0.Body.a2_, .int .u8 s_0.Body.a3_, .int .u8 s_0.Body.a4_, .int .u8 s_0.Body.a5_, .int .u8 s_0.Body.a6_, .int .u8 s_0.Body.a7_, .int .u8 s_0.Body.a8_, .int .u8 s_0.Body.a9_, .int .u8 s_0.Body.a10_, .int .u8 s_0.Body.a11_, .int .u8 s_0.Body.a12_, .int .u8 s_0.Body.a13_, .int .u8 s_0.Body.a14_, .int .u8 s_0.Body.a15_, .int .i64 s_0.Size]]) (fun σ => σ = ((((((decide (0 ≤ s_0.Num) && decide (s_0.Num ≤ 1099511627776)) && decide (0 ≤ s_0.Begin)) && decide (s_0.Begin ≤ 1099511627776)) && decide (1 ≤ s_0.Len)) && decide (s_0.Len ≤ 60000)) && decide (0 ≤ s_0.Size))) (fun L17 hL18 => ?_) ?_
 ·refine ops_split 31 (((((decide (0 ≤ s_0.Num) && decide (s_0.Num ≤ 1099511627776)) && decide (0 ≤ s_0.Begin)) && decide (s_0.Begin ≤ 1099511627776)) && decide (1 ≤ s_0.Len)) && decide (s_0.Len ≤ 60000)) rfl (fun hg19 => ?_) (fun hg19 => ?_)
  ·skip
   refine ops_y (wg 28 true 31 rfl rfl rfl rfl) rfl (y_fieldAddr_box (sz := 0) Tryz.runUnderlying57 rfl Tryz.sizeOf3 rfl) ?_
   refine ops_y (wg 28 true 31 rfl rfl rfl rfl) rfl (y_load_box 0 Tryz.isAgg3 rfl rfl rfl) ?_
   refine ops_y (wg 28 true 31 rfl rfl rfl rfl) rfl (y_geq rfl rfl) ?_
   refine oy rfl rfl (y_pick (b := true) rfl rfl) ?_
   refine ops_nil ?_
   exact goes_cut hL18 (decide (0 ≤ s_0.Size)) [0] (qv2 rfl rfl) (by decide) rfl (by rw [hg19]; simp)
  ·skip
   refine ops_no 28 true 31 rfl rfl rfl rfl rfl ?_
   refine ops_no 28 true 31 rfl rfl rfl rfl rfl ?_
   refine ops_no 28 true 31 rfl rfl rfl rfl rfl ?_
   refine oy rfl rfl (y_pick (b := false) rfl rfl) ?_
   refine ops_nil ?_
   exact goes_cut hL18 false [0] (qv2 rfl rfl) (by decide) rfl (by rw [hg19]; simp)
 rintro _ rfl
 refine oy rfl rfl (y_move rfl) ?_
 refine ops_cut 4 (Bool) (fun σ => [(40, .bool σ)]) (fun σ => []) (fun σ => σ = (((((((decide (0 ≤ s_0.Num) && decide (s_0.Num ≤ 1099511627776)) && decide (0 ≤ s_0.Begin)) && decide (s_0.Begin ≤ 1099511627776)) && decide (1 ≤ s_0.Len)) && decide (s_0.Len ≤ 60000)) && decide (0 ≤ s_0.Size)) && decide (s_0.Size ≤ 1099511627776))) (fun L20 hL21 => ?_) ?_
 ·refine ops_split 36 ((((((decide (0 ≤ s_0.Num) && decide (s_0.Num ≤ 1099511627776)) && decide (0 ≤ s_0.Begin)) && decide (s_0.Begin ≤ 1099511627776)) && decide (1 ≤ s_0.Len)) && decide (s_0.Len ≤ 60000)) && decide (0 ≤ s_0.Size)) rfl (fun hg22 => ?_) (fun hg22 => ?_)
  ·skip
   refine ops_y (wg 33 true 36 rfl rfl rfl rfl) rfl (y_fieldAddr_box (sz := 0) Tryz.runUnderlying57 rfl Tryz.sizeOf3 rfl) ?_
   refine ops_y (wg 33 true 36 rfl rfl rfl rfl) rfl (y_load_box 0 Tryz.isAgg3 rfl rfl rfl) ?_
   refine ops_y (wg 33 true 36 rfl rfl rfl rfl) rfl (y_leq rfl rfl) ?_
   refine oy rfl rfl (y_pick (b := true) rfl rfl) ?_
   refine ops_nil ?_
   exact goes_cut hL21 (decide (s_0.Size ≤ 1099511627776)) [] (qv1 rfl) (by decide) rfl (by rw [hg22]; simp)
  ·skip
   refine ops_no 33 true 36 rfl rfl rfl rfl rfl ?_
   refine ops_no 33 true 36 rfl rfl rfl rfl rfl ?_
   refine ops_no 33 true 36 rfl rfl rfl rfl rfl ?_
   refine oy rfl rfl (y_pick (b := false) rfl rfl) ?_
   refine ops_nil ?_
   exact goes_cut hL21 false [] (qv1 rfl) (by decide) rfl (by rw [hg22]; simp)
 rintro _ rfl
 refine oy rfl rfl (y_assign rfl) ?_
 refine ops_nil ?_
 refine goes_code ?_
 refine run_ret ?_
 obtain rfl := some_eq h
 refine fin_slots [2] [.bool (((((((decide (0 ≤ s_0.Num) && decide (s_0.Num ≤ 1099511627776)) && decide (0 ≤ s_0.Begin)) && decide (s_0.Begin ≤ 1099511627776)) && decide (1 ≤ s_0.Len)) && decide (s_0.Len ≤ 60000)) && decide (0 ≤ s_0.Size)) && decide (s_0.Size ≤ 1099511627776))] [] [] Tryz.results32 rfl (by decide) rfl ?_
 exact ⟨rfl, rfl⟩

def ref43_Stream_L1 (l_0 : (List S_api_Segment)) : (Int) → Option (Lp (Int) (Lp (Unit) (Bool))) :=
 fun i_5 =>
  cond (decide (i_5 < (l_0.length : Int)))
   (idx l_0 i_5 fun x11 =>
   obind (ref43_Right x11) fun r12 =>
   bindJ (S := Bool)
    (cond (!r12)
     (some (.go true))
     (bindJ (S := Bool)
      (cond (decide (0 < i_5))
       (idx l_0 (IntKind.i64.wrap (i_5 - 1)) fun x26 =>
       some (.go (decide (x11.Num ≠ (IntKind.i64.wrap (x26.Num + 1))) || decide (x11.Begin ≠ (IntKind.i64.wrap (x26.Begin + x26.Len))))))
       (some (.go false)))
     (fun b20 =>
      some (.go b20))))
   (fun b14 =>
    cond b14
     (some (.stop (.stop false)))
     (some (.go (IntKind.i64.wrap (i_5 + 1))))))
   (some (.stop (.go ())))
def ref43_Stream (n : Nat) (l_0 : (List S_api_Segment)) : Option (Bool) :=
 bindJ (S := Unit)
  (iter (ref43_Stream_L1 l_0) n 0)
 (fun _ =>
  some (decide ((l_0.length : Int) ≤ 1000)))
theorem ref43_Stream_ok (n : Nat) (l_0 : (List S_api_Segment)) (l_0v : Value) {r : Bool} (h : ref43_Stream n l_0 = some r) :
  Meets Tryz.prog 35 [l_0v] [ro l_0v 20 (l_0.map S_api_Segment.enc)] (fun v G => v = .bool r ∧ G = []) := by
 refine fn_of_run Tryz.func35 rfl Tryz.ntmps35 rfl (fun w0 o0 => ?_)
 refine run_seq ?_
 refine run_region' ?_
 refine oy rfl rfl (y_assign rfl) ?_
 refine ops_nil ?_
 refine goes_code ?_
 obtain ⟨o1, h, ho2⟩ := bindJ_some h
 refine run_cut ((Unit) × (Unit)) (fun σ => [(0, l_0v)]) (fun σ => [ro l_0v 20 (l_0.map S_api_Segment.enc)]) (fun σ => o1 = .go σ.1) (fun L4 hL3 => ?_) ?_
 ·
  refine run_seq ?_
  refine run_region' ?_
  refine oy rfl rfl (y_assign rfl) ?_
  refine ops_nil ?_
  refine goes_code ?_
  refine run_block ?_
  refine run_iter (step := ref43_Stream_L1 l_0) (n := n) (s0 := 0) h (G := Unit) () (fun σ γ => [(3, .int .i64 σ), (0, l_0v)]) (fun σ γ => [ro l_0v 20 (l_0.map S_api_Segment.enc)]) [0] (qv2 rfl rfl) (by decide) rfl ?_
  rintro i_5 _ o6 h L9 hgo7 hstop8
  change Run _ _ _ (VF.of [(3, .int .i64 i_5), (0, l_0v)]) [ro l_0v 20 (l_0.map S_api_Segment.enc)]
  refine run_seq ?_
  refine run_seq ?_
  refine run_region' ?_
  refine oy rfl rfl (y_move rfl) ?_
  refine oy rfl rfl (y_move rfl) ?_
  refine oy rfl rfl ((y_len 0 rfl Tryz.runUnderlying22 rfl rfl reads_ro).to (v_len S_api_Segment.enc _)) ?_
  refine oy rfl rfl (y_lss rfl rfl) ?_
  refine ops_nil ?_
  refine goes_code ?_
  refine run_cond (decide (i_5 < (l_0.length : Int))) rfl (fun hc10 => ?_) (fun hc10 => ?_)
  ·replace h := cond_t h hc10
   refine run_skip ?_
   refine goes_code ?_
   refine run_seq ?_
   refine run_block ?_
   refine run_seq ?_
   refine run_region' ?_
   refine oy rfl rfl (y_move rfl) ?_
   refine oy rfl rfl (y_move rfl) ?_
   obtain ⟨x11, hzx11, hlx11, hxx11, h⟩ := idx_some h
   refine oy rfl rfl (y_indexAddrI (kd := .i64) (i := i_5) 0 Tryz.runUnderlying22 Tryz.sizeOf57 rfl rfl rfl reads_ro hzx11 (map_lt hlx11)) ?_
   refine oy rfl rfl (y_load_agg (i := i_5.toNat) (c := [.int .i64 x11.Num, .int .i64 x11.Begin, .int .i64 x11.Len, .int .u8 x11.Body.a0_, .int .u8 x11.Body.a1_, .int .u8 x11.Body.a2_, .int .u8 x11.Body.a3_, .int .u8 x11.Body.a4_, .int .u8 x11.Body.a5_, .int .u8 x11.Body.a6_, .int .u8 x11.Body.a7_, .int .u8 x11.Body.a8_, .int .u8 x11.Body.a9_, .int .u8 x11.Body.a10_, .int .u8 x11.Body.a11_, .int .u8 x11.Body.a12_, .int .u8 x11.Body.a13_, .int .u8 x11.Body.a14_, .int .u8 x11.Body.a15_, .int .i64 x11.Size]) 0 Tryz.isAgg57 Tryz.sizeOf57 rfl rfl reads_ro (map_get hxx11)) ?_
   obtain ⟨r12, hr13, h⟩ := obind_some h
   refine ot rfl rfl (t_callx (vs := [.agg #[.int .i64 x11.Num, .int .i64 x11.Begin, .int .i64 x11.Len, .int .u8 x11.Body.a0_, .int .u8 x11.Body.a1_, .int .u8 x11.Body.a2_, .int .u8 x11.Body.a3_, .int .u8 x11.Body.a4_, .int .u8 x11.Body.a5_, .int .u8 x11.Body.a6_, .int .u8 x11.Body.a7_, .int .u8 x11.Body.a8_, .int .u8 x11.Body.a9_, .int .u8 x11.Body.a10_, .int .u8 x11.Body.a11_, .int .u8 x11.Body.a12_, .int .u8 x11.Body.a13_, .int .u8 x11.Body.a14_, .int .u8 x11.Body.a15_, .int .i64 x11.Size]]) (cs := []) [] rfl Tryz.call32 rfl (ref43_Right_ok x11  hr13) showsX_nil rfl (.inl rfl)) ?_
   rintro _ _ ⟨_, ⟨rfl, rfl⟩, rfl⟩
   refine oy rfl rfl (y_assign rfl) ?_
   refine ops_nil ?_
   refine goes_code ?_
   refine run_seq ?_
   refine run_weak [(3, .int .i64 i_5), (0, l_0v), (4, .bool r12)] [0] [ro l_0v 20 (l_0.map S_api_Segment.enc)] (qv3 rfl rfl rfl) (by decide) rfl ?_
   refine run_draw (by kernel_rfl) (by kernel_rfl) ?_
   refine sy rfl rfl (y_move rfl) ?_
   refine sy rfl rfl (y_not rfl) ?_
   refine sy rfl rfl (y_move rfl) ?_
   obtain ⟨o15, h, ho16⟩ := bindJ_some h
   refine still_cut 39 (Bool) (fun σ => [(3, .int .i64 i_5), (0, l_0v), (57, .bool σ)]) (fun σ => [ro l_0v 20 (l_0.map S_api_Segment.enc)]) (fun σ => o15 = .go σ) (fun L17 hL18 => ?_) ?_
   ·refine still_split 18 (!r12) rfl (fun hg19 => ?_) (fun hg19 => ?_)
    ·replace h := cond_t h hg19
     refine still_no 2 false 18 rfl rfl rfl rfl rfl ?_
     refine still_no 2 false 18 rfl rfl rfl rfl rfl ?_
     refine still_no 2 false 18 rfl rfl rfl rfl rfl ?_
     refine still_un 5 true 21 rfl rfl rfl rfl rfl ?_
     refine still_un 5 true 21 rfl rfl rfl rfl rfl ?_
     refine still_un 5 true 21 rfl rfl rfl rfl rfl ?_
     refine still_un 5 true 21 rfl rfl rfl rfl rfl ?_
     refine still_un 5 true 21 rfl rfl rfl rfl rfl ?_
     refine still_un 5 true 21 rfl rfl rfl rfl rfl ?_
     refine still_un 5 true 21 rfl rfl rfl rfl rfl ?_
     refine still_un 5 true 21 rfl rfl rfl rfl rfl ?_
     refine still_un 5 true 21 rfl rfl rfl rfl rfl ?_
     refine still_un 5 true 21 rfl rfl rfl rfl rfl ?_
     refine still_un 5 true 21 rfl rfl rfl rfl rfl ?_
     refine still_un 5 true 21 rfl rfl rfl rfl rfl ?_
     refine still_un 5 true 21 rfl rfl rfl rfl rfl ?_
     refine still_un 5 true 21 rfl rfl rfl rfl rfl ?_
     refine still_un 19 false 35 rfl rfl rfl rfl rfl ?_
     refine still_un 19 false 35 rfl rfl rfl rfl rfl ?_
     refine still_un 19 false 35 rfl rfl rfl rfl rfl ?_
     refine still_un 19 false 35 rfl rfl rfl rfl rfl ?_
     refine still_un 19 false 35 rfl rfl rfl rfl rfl ?_
     refine still_un 19 false 35 rfl rfl rfl rfl rfl ?_
     refine still_un 19 false 35 rfl rfl rfl rfl rfl ?_
     refine still_un 19 false 35 rfl rfl rfl rfl rfl ?_
     refine still_un 19 false 35 rfl rfl rfl rfl rfl ?_
     refine still_un 19 false 35 rfl rfl rfl rfl rfl ?_
     refine still_un 19 false 35 rfl rfl rfl rfl rfl ?_
     refine still_un 19 false 35 rfl rfl rfl rfl rfl ?_
     refine still_un 19 false 35 rfl rfl rfl rfl rfl ?_
     refine still_un 19 false 35 rfl rfl rfl rfl rfl ?_
     refine still_un 19 false 35 rfl rfl rfl rfl rfl ?_
     refine still_un 19 false 35 rfl rfl rfl rfl rfl ?_
     refine still_un 19 false 35 rfl rfl rfl rfl rfl ?_
     refine still_un 19 false 35 rfl rfl rfl rfl rfl ?_
     refine still_un 19 false 35 rfl rfl rfl rfl rfl ?_
     refine still_un 5 true 21 rfl rfl rfl rfl rfl ?_
     refine still_no 2 false 18 rfl rfl rfl rfl rfl ?_
     refine sy rfl rfl (y_pick (b := true) rfl rfl) ?_
     refine still_nil ?_
     obtain rfl := some_eq h
     exact goes_cut hL18 true [0] (qv3 rfl rfl rfl) (by decide) rfl rfl
    ·replace h := cond_f h hg19
     refine still_y (wg 2 false 18 rfl rfl rfl rfl) rfl (y_move rfl) ?_
     refine still_y (wg 2 false 18 rfl rfl rfl rfl) rfl (y_gtr rfl rfl) ?_
     refine still_y (wg 2 false 18 rfl rfl rfl rfl) rfl (y_move rfl) ?_
     obtain ⟨o21, h, ho22⟩ := bindJ_some h
     refine still_cut 35 (Bool) (fun σ => [(3, .int .i64 i_5), (0, l_0v), (18, .bool false), (56, .bool σ)]) (fun σ => [ro l_0v 20 (l_0.map S_api_Segment.enc)]) (fun σ => o21 = .go σ) (fun L23 hL24 => ?_) ?_
     ·refine still_split 21 (decide (0 < i_5)) rfl (fun hg25 => ?_) (fun hg25 => ?_)
      ·replace h := cond_t h hg25
       refine still_y (wg 5 true 21 rfl rfl rfl rfl) rfl (y_move rfl) ?_
       refine still_y (wg 5 true 21 rfl rfl rfl rfl) rfl (y_move rfl) ?_
       refine still_y (wg 5 true 21 rfl rfl rfl rfl) rfl (y_indexAddrI (kd := .i64) (i := i_5) 0 Tryz.runUnderlying22 Tryz.sizeOf57 rfl rfl rfl reads_ro hzx11 (map_lt hlx11)) ?_
       refine still_y (wg 5 true 21 rfl rfl rfl rfl) rfl (y_fieldAddr_elem (sz := 0) Tryz.runUnderlying57 rfl Tryz.sizeOf3 rfl) ?_
       refine still_y (wg 5 true 21 rfl rfl rfl rfl) rfl (y_load_field (i := i_5.toNat) (j := 0) 0 Tryz.isAgg3 rfl rfl reads_ro (map_get hxx11) rfl) ?_
       refine still_y (wg 5 true 21 rfl rfl rfl rfl) rfl (y_move rfl) ?_
       refine still_y (wg 5 true 21 rfl rfl rfl rfl) rfl (y_move rfl) ?_
       refine still_y (wg 5 true 21 rfl rfl rfl rfl) rfl (y_sub rfl rfl) ?_
       obtain ⟨x26, hzx26, hlx26, hxx26, h⟩ := idx_some h
       refine still_y (wg 5 true 21 rfl rfl rfl rfl) rfl (y_indexAddrI (kd := .i64) (i := (IntKind.i64.wrap (i_5 - 1))) 0 Tryz.runUnderlying22 Tryz.sizeOf57 rfl rfl rfl reads_ro hzx26 (map_lt hlx26)) ?_
       refine still_y (wg 5 true 21 rfl rfl rfl rfl) rfl (y_fieldAddr_elem (sz := 0) Tryz.runUnderlying57 rfl Tryz.sizeOf3 rfl) ?_
       refine still_y (wg 5 true 21 rfl rfl rfl rfl) rfl (y_load_field (i := ((IntKind.i64.wrap (i_5 - 1))).toNat) (j := 0) 0 Tryz.isAgg3 rfl rfl reads_ro (map_get hxx26) rfl) ?_
       refine still_y (wg 5 true 21 rfl rfl rfl rfl) rfl (y_add rfl rfl) ?_
       refine still_y (wg 5 true 21 rfl rfl rfl rfl) rfl (y_neq rfl rfl) ?_
       refine still_y (wg 5 true 21 rfl rfl rfl rfl) rfl (y_move rfl) ?_
       refine still_cut 20 (Bool) (fun σ => [(3, .int .i64 i_5), (0, l_0v), (18, .bool false), (21, .bool true), (55, .bool σ)]) (fun σ => [ro l_0v 20 (l_0.map S_api_Segment.enc)]) (fun σ => σ = (decide (x11.Num ≠ (IntKind.i64.wrap (x26.Num + 1))) || decide (x11.Begin ≠ (IntKind.i64.wrap (x26.Begin + x26.Len))))) (fun L27 hL28 => ?_) ?_
       ·refine still_split 35 (decide (x11.Num ≠ (IntKind.i64.wrap (x26.Num + 1)))) rfl (fun hg29 => ?_) (fun hg29 => ?_)
        ·skip
         refine still_no 19 false 35 rfl rfl rfl rfl rfl ?_
         refine still_no 19 false 35 rfl rfl rfl rfl rfl ?_
         refine still_no 19 false 35 rfl rfl rfl rfl rfl ?_
         refine still_no 19 false 35 rfl rfl rfl rfl rfl ?_
         refine still_no 19 false 35 rfl rfl rfl rfl rfl ?_
         refine still_no 19 false 35 rfl rfl rfl rfl rfl ?_
         refine still_no 19 false 35 rfl rfl rfl rfl rfl ?_
         refine still_no 19 false 35 rfl rfl rfl rfl rfl ?_
         refine still_no 19 false 35 rfl rfl rfl rfl rfl ?_
         refine still_no 19 false 35 rfl rfl rfl rfl rfl ?_
         refine still_no 19 false 35 rfl rfl rfl rfl rfl ?_
         refine still_no 19 false 35 rfl rfl rfl rfl rfl ?_
         refine still_no 19 false 35 rfl rfl rfl rfl rfl ?_
         refine still_no 19 false 35 rfl rfl rfl rfl rfl ?_
         refine still_no 19 false 35 rfl rfl rfl rfl rfl ?_
         refine still_no 19 false 35 rfl rfl rfl rfl rfl ?_
         refine still_no 19 false 35 rfl rfl rfl rfl rfl ?_
         refine still_no 19 false 35 rfl rfl rfl rfl rfl ?_
         refine still_no 19 false 35 rfl rfl rfl rfl rfl ?_
         refine still_y (wg 5 true 21 rfl rfl rfl rfl) rfl (y_pick (b := true) rfl rfl) ?_
         refine still_nil ?_
         exact goes_cut hL28 true [0] (qv5 rfl rfl rfl rfl rfl) (by decide) rfl (by rw [hg29]; simp)
        ·skip
         refine still_y (wg 19 false 35 rfl rfl rfl rfl) rfl (y_move rfl) ?_
         refine still_y (wg 19 false 35 rfl rfl rfl rfl) rfl (y_move rfl) ?_
         refine still_y (wg 19 false 35 rfl rfl rfl rfl) rfl (y_indexAddrI (kd := .i64) (i := i_5) 0 Tryz.runUnderlying22 Tryz.sizeOf57 rfl rfl rfl reads_ro hzx11 (map_lt hlx11)) ?_
         refine still_y (wg 19 false 35 rfl rfl rfl rfl) rfl (y_fieldAddr_elem (sz := 0) Tryz.runUnderlying57 rfl Tryz.sizeOf3 rfl) ?_
         refine still_y (wg 19 false 35 rfl rfl rfl rfl) rfl (y_load_field (i := i_5.toNat) (j := 1) 0 Tryz.isAgg3 rfl rfl reads_ro (map_get hxx11) rfl) ?_
         refine still_y (wg 19 false 35 rfl rfl rfl rfl) rfl (y_move rfl) ?_
         refine still_y (wg 19 false 35 rfl rfl rfl rfl) rfl (y_move rfl) ?_
         refine still_y (wg 19 false 35 rfl rfl rfl rfl) rfl (y_sub rfl rfl) ?_
         refine still_y (wg 19 false 35 rfl rfl rfl rfl) rfl (y_indexAddrI (kd := .i64) (i := (IntKind.i64.wrap (i_5 - 1))) 0 Tryz.runUnderlying22 Tryz.sizeOf57 rfl rfl rfl reads_ro hzx26 (map_lt hlx26)) ?_
         refine still_y (wg 19 false 35 rfl rfl rfl rfl) rfl (y_fieldAddr_elem (sz := 0) Tryz.runUnderlying57 rfl Tryz.sizeOf3 rfl) ?_
         refine still_y (wg 19 false 35 rfl rfl rfl rfl) rfl (y_load_field (i := ((IntKind.i64.wrap (i_5 - 1))).toNat) (j := 1) 0 Tryz.isAgg3 rfl rfl reads_ro (map_get hxx26) rfl) ?_
         refine still_y (wg 19 false 35 rfl rfl rfl rfl) rfl (y_move rfl) ?_
         refine still_y (wg 19 false 35 rfl rfl rfl rfl) rfl (y_move rfl) ?_
         refine still_y (wg 19 false 35 rfl rfl rfl rfl) rfl (y_sub rfl rfl) ?_
         refine still_y (wg 19 false 35 rfl rfl rfl rfl) rfl (y_indexAddrI (kd := .i64) (i := (IntKind.i64.wrap (i_5 - 1))) 0 Tryz.runUnderlying22 Tryz.sizeOf57 rfl rfl rfl reads_ro hzx26 (map_lt hlx26)) ?_
         refine still_y (wg 19 false 35 rfl rfl rfl rfl) rfl (y_fieldAddr_elem (sz := 0) Tryz.runUnderlying57 rfl Tryz.sizeOf3 rfl) ?_
         refine still_y (wg 19 false 35 rfl rfl rfl rfl) rfl (y_load_field (i := ((IntKind.i64.wrap (i_5 - 1))).toNat) (j := 2) 0 Tryz.isAgg3 rfl rfl reads_ro (map_get hxx26) rfl) ?_
         refine still_y (wg 19 false 35 rfl rfl rfl rfl) rfl (y_add rfl rfl) ?_
         refine still_y (wg 19 false 35 rfl rfl rfl rfl) rfl (y_neq rfl rfl) ?_
         refine still_y (wg 5 true 21 rfl rfl rfl rfl) rfl (y_pick (b := false) rfl rfl) ?_
         refine still_nil ?_
         exact goes_cut hL28 (decide (x11.Begin ≠ (IntKind.i64.wrap (x26.Begin + x26.Len)))) [0] (qv5 rfl rfl rfl rfl rfl) (by decide) rfl (by rw [hg29]; simp)
       rintro _ rfl
       refine still_y (wg 2 false 18 rfl rfl rfl rfl) rfl (y_pick (b := true) rfl rfl) ?_
       refine still_nil ?_
       obtain rfl := some_eq h
       exact goes_cut hL24 (decide (x11.Num ≠ (IntKind.i64.wrap (x26.Num + 1))) || decide (x11.Begin ≠ (IntKind.i64.wrap (x26.Begin + x26.Len)))) [0] (qv4 rfl rfl rfl rfl) (by decide) rfl rfl
      ·replace h := cond_f h hg25
       refine still_no 5 true 21 rfl rfl rfl rfl rfl ?_
       refine still_no 5 true 21 rfl rfl rfl rfl rfl ?_
       refine still_no 5 true 21 rfl rfl rfl rfl rfl ?_
       refine still_no 5 true 21 rfl rfl rfl rfl rfl ?_
       refine still_no 5 true 21 rfl rfl rfl rfl rfl ?_
       refine still_no 5 true 21 rfl rfl rfl rfl rfl ?_
       refine still_no 5 true 21 rfl rfl rfl rfl rfl ?_
       refine still_no 5 true 21 rfl rfl rfl rfl rfl ?_
       refine still_no 5 true 21 rfl rfl rfl rfl rfl ?_
       refine still_no 5 true 21 rfl rfl rfl rfl rfl ?_
       refine still_no 5 true 21 rfl rfl rfl rfl rfl ?_
       refine still_no 5 true 21 rfl rfl rfl rfl rfl ?_
       refine still_no 5 true 21 rfl rfl rfl rfl rfl ?_
       refine still_no 5 true 21 rfl rfl rfl rfl rfl ?_
       refine still_un 19 false 35 rfl rfl rfl rfl rfl ?_
       refine still_un 19 false 35 rfl rfl rfl rfl rfl ?_
       refine still_un 19 false 35 rfl rfl rfl rfl rfl ?_
       refine still_un 19 false 35 rfl rfl rfl rfl rfl ?_
       refine still_un 19 false 35 rfl rfl rfl rfl rfl ?_
       refine still_un 19 false 35 rfl rfl rfl rfl rfl ?_
       refine still_un 19 false 35 rfl rfl rfl rfl rfl ?_
       refine still_un 19 false 35 rfl rfl rfl rfl rfl ?_
       refine still_un 19 false 35 rfl rfl rfl rfl rfl ?_
       refine still_un 19 false 35 rfl rfl rfl rfl rfl ?_
       refine still_un 19 false 35 rfl rfl rfl rfl rfl ?_
       refine still_un 19 false 35 rfl rfl rfl rfl rfl ?_
       refine still_un 19 false 35 rfl rfl rfl rfl rfl ?_
       refine still_un 19 false 35 rfl rfl rfl rfl rfl ?_
       refine still_un 19 false 35 rfl rfl rfl rfl rfl ?_
       refine still_un 19 false 35 rfl rfl rfl rfl rfl ?_
       refine still_un 19 false 35 rfl rfl rfl rfl rfl ?_
       refine still_un 19 false 35 rfl rfl rfl rfl rfl ?_
       refine still_un 19 false 35 rfl rfl rfl rfl rfl ?_
       refine still_no 5 true 21 rfl rfl rfl rfl rfl ?_
       refine still_y (wg 2 false 18 rfl rfl rfl rfl) rfl (y_pick (b := false) rfl rfl) ?_
       refine still_nil ?_
       obtain rfl := some_eq h
       exact goes_cut hL24 false [0] (qv4 rfl rfl rfl rfl) (by decide) rfl rfl
     rintro b20 hj
     obtain rfl : o21 = _ := hj
     replace h := after_go ho22
     clear ho22
     refine sy rfl rfl (y_pick (b := false) rfl rfl) ?_
     refine still_nil ?_
     obtain rfl := some_eq h
     exact goes_cut hL18 b20 [0] (qv3 rfl rfl rfl) (by decide) rfl rfl
   rintro b14 hj
   obtain rfl : o15 = _ := hj
   replace h := after_go ho16
   clear ho16
   refine still_nil ?_
   refine goes_code ?_
   refine run_cond b14 rfl (fun hc30 => ?_) (fun hc30 => ?_)
   ·replace h := cond_t h hc30
    refine run_seq ?_
    refine run_region' ?_
    refine oy rfl rfl (y_assign rfl) ?_
    refine ops_nil ?_
    refine goes_code ?_
    refine run_ret ?_
    obtain rfl := some_eq h
    obtain rfl := hstop8 _ rfl
    skip
    obtain rfl := after_stop ho2
    refine fin_slots [2] [.bool false] [] [] Tryz.results35 rfl (by decide) rfl ?_
    exact ⟨rfl, rfl⟩
   ·replace h := cond_f h hc30
    refine run_skip ?_
    refine goes_blk ?_
    refine goes_code ?_
    refine run_region' ?_
    refine oy rfl rfl (y_move rfl) ?_
    refine oy rfl rfl (y_add rfl rfl) ?_
    refine oy rfl rfl (y_assign rfl) ?_
    refine ops_nil ?_
    obtain rfl := some_eq h
    exact goes_iter hgo7 (IntKind.i64.wrap (i_5 + 1)) () [0] rfl (qv2 rfl rfl) (by decide) rfl
  ·replace h := cond_f h hc10
   refine run_exit _ rfl ?_
   obtain rfl := some_eq h
   obtain rfl := hstop8 _ rfl
   exact goes_cut hL3 ((), ()) [0] (qv1 rfl) (by decide) rfl rfl
 rintro ⟨_, _⟩ hj
 obtain rfl : o1 = _ := hj
 replace h := after_go ho2
 clear ho2
 change Run _ _ _ (VF.of [(0, l_0v)]) [ro l_0v 20 (l_0.map S_api_Segment.enc)]
 refine run_seq ?_
 refine run_region' ?_
 refine oy rfl rfl (y_move rfl) ?_
 refine oy rfl rfl ((y_len 0 rfl Tryz.runUnderlying22 rfl rfl reads_ro).to (v_len S_api_Segment.enc _)) ?_
 refine oy rfl rfl (y_leq rfl rfl) ?_
 refine oy rfl rfl (y_assign rfl) ?_
 refine ops_nil ?_
 refine goes_code ?_
 refine run_ret ?_
 obtain rfl := some_eq h
 refine fin_slots [2] [.bool (decide ((l_0.length : Int) ≤ 1000))] [] [] Tryz.results35 rfl (by decide) rfl ?_
 exact ⟨rfl, rfl⟩

def ref43_cut (p_0 : S_api_Playlist) (window_1 : Int) : Option (S_api_Playlist) :=
 bindJ (S := Int × (List S_api_Segment))
  (cond (decide (window_1 < (p_0.L.length : Int)))
   (need (0 ≤ (IntKind.i64.wrap ((p_0.L.length : Int) - window_1)) ∧ (IntKind.i64.wrap ((p_0.L.length : Int) - window_1)) ≤ (p_0.L.length : Int) ∧ (p_0.L.length : Int) ≤ (p_0.L.length : Int)) (
   idx (p_0.L.drop (((IntKind.i64.wrap ((p_0.L.length : Int) - window_1))).toNat)) 0 fun x13 =>
   some (.go (x13.Num, (p_0.L.drop (((IntKind.i64.wrap ((p_0.L.length : Int) - window_1))).toNat))))))
   (some (.go (p_0.First, p_0.L))))
 (fun (x_3, x_4) =>
  some (S_api_Playlist.mk x_3 x_4 p_0.Done))
theorem ref43_cut_ok (p_0 : S_api_Playlist) (window_1 : Int) (p_0_Lv : Value) {r : S_api_Playlist} (h : ref43_cut p_0 window_1 = some r) :
  Meets Tryz.prog 44 [.agg #[.int .i64 p_0.First, p_0_Lv, .bool p_0.Done], .int .i64 window_1] [ro p_0_Lv 20 (p_0.L.map S_api_Segment.enc)] (fun v G => ∃ v0, v = .agg #[.int .i64 r.First, v0, .bool r.Done] ∧ G = [ro v0 20 (r.L.map S_api_Segment.enc)]) := by
 refine fn_of_run Tryz.func44 rfl Tryz.ntmps44 rfl (fun w0 o0 => ?_)
 refine run_seq ?_
 refine run_region' ?_
 refine ot rfl rfl (t_box rfl) ?_
 rintro _ _ ⟨b1, rfl, rfl⟩
 refine ot rfl rfl (t_alloc Tryz.zeroValue24) ?_
 rintro _ _ ⟨b2, rfl, rfl⟩
 refine ops_nil ?_
 refine goes_code ?_
 obtain ⟨o6, h, ho7⟩ := bindJ_some h
 refine run_cut ((Int × (List S_api_Segment)) × (Value)) (fun σ => [(2, boxP b1 0), (4, boxP b2 0)]) (fun σ => [box b1 [.int .i64 σ.1.1, σ.2, .bool p_0.Done], ro σ.2 20 (σ.1.2.map S_api_Segment.enc), box b2 [.int .i64 0, .slice none 0 0, .bool false]]) (fun σ => o6 = .go σ.1) (fun L9 hL8 => ?_) ?_
 ·
  refine run_seq ?_
  refine run_region' ?_
  refine oy rfl rfl (y_fieldAddr_box (sz := 0) Tryz.runUnderlying24 rfl Tryz.sizeOf22 rfl) ?_
  refine oy rfl rfl (y_load_box 1 Tryz.isAgg22 rfl rfl rfl) ?_
  refine oy rfl rfl ((y_len 0 rfl Tryz.runUnderlying22 rfl rfl reads_ro).to (v_len S_api_Segment.enc _)) ?_
  refine oy rfl rfl (y_move rfl) ?_
  refine oy rfl rfl (y_gtr rfl rfl) ?_
  refine ops_nil ?_
  refine goes_code ?_
  refine run_cond (decide (window_1 < (p_0.L.length : Int))) rfl (fun hc10 => ?_) (fun hc10 => ?_)
  ·replace h := cond_t h hc10
   refine run_seq ?_
   refine run_region' ?_
   refine oy rfl rfl (y_fieldAddr_box (sz := 0) Tryz.runUnderlying24 rfl Tryz.sizeOf22 rfl) ?_
   refine oy rfl rfl (y_load_box 1 Tryz.isAgg22 rfl rfl rfl) ?_
   refine oy rfl rfl (y_fieldAddr_box (sz := 0) Tryz.runUnderlying24 rfl Tryz.sizeOf22 rfl) ?_
   refine oy rfl rfl (y_load_box 1 Tryz.isAgg22 rfl rfl rfl) ?_
   refine oy rfl rfl ((y_len 0 rfl Tryz.runUnderlying22 rfl rfl reads_ro).to (v_len S_api_Segment.enc _)) ?_
   refine oy rfl rfl (y_move rfl) ?_
   refine oy rfl rfl (y_sub rfl rfl) ?_
   obtain ⟨hb11, h⟩ := need_some h
   refine oy rfl rfl (y_slice (l := (IntKind.i64.wrap ((p_0.L.length : Int) - window_1))) (r := (p_0.L.length : Int)) 0 Tryz.runUnderlying22 Tryz.sizeOf57 rfl rfl reads_ro (bi1 (kd := .i64) rfl) bi0m hb11.1 hb11.2.1 (map_len_le hb11.2.2)) ?_
   refine ops_turn (turn_sub (l := ((IntKind.i64.wrap ((p_0.L.length : Int) - window_1))).toNat) (r := ((p_0.L.length : Int)).toNat) 0 rfl (by omega) (map_toNat_le hb11.2.2)) ?_
   refine ops_turn (retell 3 (g := ro (subS p_0_Lv 20 (((IntKind.i64.wrap ((p_0.L.length : Int) - window_1))).toNat) (((p_0.L.length : Int)).toNat)) 20 ((p_0.L.drop (((IntKind.i64.wrap ((p_0.L.length : Int) - window_1))).toNat)).map S_api_Segment.enc)) rfl (congrArg (ro _ _) (sub_lo _ _ _))) ?_
   refine oy rfl rfl (y_fieldAddr_box (sz := 0) Tryz.runUnderlying24 rfl Tryz.sizeOf22 rfl) ?_
   refine ops_weak [(2, boxP b1 0), (4, boxP b2 0), (17, (subS p_0_Lv 20 (((IntKind.i64.wrap ((p_0.L.length : Int) - window_1))).toNat) (((p_0.L.length : Int)).toNat))), (18, boxP b1 1)] [0, 1, 2, 3] [ro p_0_Lv 20 (p_0.L.map S_api_Segment.enc), box b1 [.int .i64 p_0.First, p_0_Lv, .bool p_0.Done], box b2 [.int .i64 0, .slice none 0 0, .bool false], ro (subS p_0_Lv 20 (((IntKind.i64.wrap ((p_0.L.length : Int) - window_1))).toNat) (((p_0.L.length : Int)).toNat)) 20 ((p_0.L.drop (((IntKind.i64.wrap ((p_0.L.length : Int) - window_1))).toNat)).map S_api_Segment.enc)] (qv4 rfl rfl rfl rfl) (by decide) rfl ?_
   refine ops_slc 3 rfl reads_ro (fun hs12 hs12o => ?_)
   refine ot rfl rfl (t_store 1 Tryz.sizeOf22 rfl rfl rfl (by rw [hs12]; rfl) (by simp [Value.cells, boxP]) (by rw [hs12]; exact allL_cons hs12o (allL_nil))) ?_
   rintro _ _ ⟨rfl, rfl⟩
   refine ops_turn (retell 1 (g := box b1 [.int .i64 p_0.First, (subS p_0_Lv 20 (((IntKind.i64.wrap ((p_0.L.length : Int) - window_1))).toNat) (((p_0.L.length : Int)).toNat)), .bool p_0.Done]) rfl (by rw [hs12]; rfl)) ?_
   refine ops_nil ?_
   refine goes_code ?_
   refine run_region' ?_
   refine oy rfl rfl (y_fieldAddr_box (sz := 0) Tryz.runUnderlying24 rfl Tryz.sizeOf22 rfl) ?_
   refine oy rfl rfl (y_load_box 1 Tryz.isAgg22 rfl rfl rfl) ?_
   obtain ⟨x13, hzx13, hlx13, hxx13, h⟩ := idx_some h
   refine oy rfl rfl (y_indexAddrI (kd := .i64) (i := 0) 3 Tryz.runUnderlying22 Tryz.sizeOf57 rfl rfl rfl reads_ro hzx13 (map_lt hlx13)) ?_
   refine oy rfl rfl (y_fieldAddr_elem (sz := 0) Tryz.runUnderlying57 rfl Tryz.sizeOf3 rfl) ?_
   refine oy rfl rfl (y_load_field (i := (0 : Int).toNat) (j := 0) 3 Tryz.isAgg3 rfl rfl reads_ro (map_get hxx13) rfl) ?_
   refine oy rfl rfl (y_fieldAddr_box (sz := 0) Tryz.runUnderlying24 rfl Tryz.sizeOf3 rfl) ?_
   refine ot rfl rfl (t_store 1 Tryz.sizeOf3 rfl rfl rfl rfl (by simp [Value.cells, boxP]) (by simp [Value.cells, Value.oneCell', boxP])) ?_
   rintro _ _ ⟨rfl, rfl⟩
   refine ops_turn (retell 1 (g := box b1 [.int .i64 x13.Num, (subS p_0_Lv 20 (((IntKind.i64.wrap ((p_0.L.length : Int) - window_1))).toNat) (((p_0.L.length : Int)).toNat)), .bool p_0.Done]) rfl rfl) ?_
   refine ops_nil ?_
   obtain rfl := some_eq h
   exact goes_cut hL8 ((x13.Num, (p_0.L.drop (((IntKind.i64.wrap ((p_0.L.length : Int) - window_1))).toNat))), (subS p_0_Lv 20 (((IntKind.i64.wrap ((p_0.L.length : Int) - window_1))).toNat) (((p_0.L.length : Int)).toNat))) [1, 3, 2] (qv2 rfl rfl) (by decide) rfl rfl
  ·replace h := cond_f h hc10
   refine run_skip ?_
   obtain rfl := some_eq h
   exact goes_cut hL8 ((p_0.First, p_0.L), p_0_Lv) [1, 0, 2] (qv2 rfl rfl) (by decide) rfl rfl
 rintro ⟨⟨x_3, x_4⟩, v5⟩ hj
 obtain rfl : o6 = _ := hj
 replace h := after_go ho7
 clear ho7
 change Run _ _ _ (VF.of [(2, boxP b1 0), (4, boxP b2 0)]) [box b1 [.int .i64 x_3, v5, .bool p_0.Done], ro v5 20 (x_4.map S_api_Segment.enc), box b2 [.int .i64 0, .slice none 0 0, .bool false]]
 refine run_seq ?_
 refine run_region' ?_
 refine oy rfl rfl (y_load_boxagg (c := [.int .i64 x_3, v5, .bool p_0.Done]) 0 Tryz.isAgg24 Tryz.sizeOf24 rfl rfl rfl) ?_
 refine ops_slc 1 rfl reads_ro (fun hs14 hs14o => ?_)
 refine ot rfl rfl (t_store 2 Tryz.sizeOf24 rfl rfl rfl rfl (by simp [Value.cells, boxP]) (allL_cons rfl (allL_cons hs14o (allL_cons rfl (allL_nil))))) ?_
 rintro _ _ ⟨rfl, rfl⟩
 refine ops_turn (retell 2 (g := box b2 [.int .i64 x_3, v5, .bool p_0.Done]) rfl rfl) ?_
 refine ops_nil ?_
 refine goes_code ?_
 refine run_ret ?_
 obtain rfl := some_eq h
 refine fin_res [.cell 4 24] [.agg #[.int .i64 x_3, v5, .bool p_0.Done]] [1] [ro v5 20 (x_4.map S_api_Segment.enc)] Tryz.results44 rfl (rescons (res_box 2 Tryz.isAgg24 Tryz.sizeOf24 rfl rfl rfl) resnil) (by decide) rfl ?_
 exact ⟨_, rfl, rfl⟩

end Go.Proofs.YtbgpojdmdnkeaaaGreatDoor
namespace Go.Proofs.YtbgpojdmdnkeaaaGreatDoor
open Go.Abs
set_option linter.unusedSimpArgs false
set_option linter.unusedVariables false
theorem idx_0 {α β : Type} {l : List α} (h : 0 < l.length) (k : α → Option β) : idx l 0 k = k l[0] := idx_get' h k
theorem rright_eq (s : S_api_Segment) : ref43_Right s = some (decide (okSeg s)) := by
  unfold ref43_Right
  congr 1
  rw [Bool.eq_iff_iff]
  simp only [Bool.and_eq_true, decide_eq_true_eq]
  unfold okSeg
  omega
theorem rstream_loop (l : List S_api_Segment) (hl : l.length ≤ 4294967296) (n : Nat) (hn : l.length < n) :
    ∃ r, iter (ref43_Stream_L1 l) n 0 = some r ∧ ((r = .go () ∧ Strm l) ∨ (r = .stop false ∧ ¬ Strm l)) := by
  refine iter_inv (step := ref43_Stream_L1 l) (fun s : Int => ∃ i : Nat, s = i ∧ i ≤ l.length ∧ (∀ j (h : j < l.length), j < i → okSeg l[j]) ∧ ∀ j (h : j + 1 < l.length), j + 1 < i → joins l[j] l[j + 1]) (fun s => l.length - s.toNat) _ ?_ n 0 ⟨0, rfl, Nat.zero_le _, fun j h hj => by omega, fun j h hj => by omega⟩ (by simpa using hn)
  rintro s ⟨i, rfl, hi, hok, hj⟩
  unfold ref43_Stream_L1
  by_cases hlt : i < l.length
  · have e : decide ((i : Int) < (l.length : Int)) = true := by simpa using hlt
    simp only [e, cond_true]
    rw [idx_get' hlt, rright_eq]
    simp only [obind, Option.bind_some]
    by_cases hk : okSeg l[i]
    · simp only [hk, decide_true, Bool.not_true, cond_false]
      by_cases h0 : i = 0
      · subst h0
        left
        refine ⟨((1 : Nat) : Int), by simp [w64], ⟨1, rfl, by omega, fun j h hj' => ?_, fun j h hj' => by omega⟩, by simp; omega⟩
        obtain rfl : j = 0 := by omega
        exact hk
      · have e1 : decide (0 < (i : Int)) = true := by simp; omega
        simp only [e1, cond_true]
        have hp : i - 1 < l.length := by omega
        rw [w64 (x := (i : Int) - 1) (by omega) (by omega), show (i : Int) - 1 = ((i - 1 : Nat) : Int) by omega, idx_get' hp]
        have hkp := hok (i - 1) hp (by omega)
        have hkp' := hkp
        unfold okSeg at hkp'
        rw [w64 (x := l[i - 1].Num + 1) (by omega) (by omega), w64 (x := l[i - 1].Begin + l[i - 1].Len) (by omega) (by omega)]
        simp only [bindJ_go]
        by_cases hjn : joins l[i - 1] l[i]
        · left
          obtain ⟨j1, j2⟩ := hjn
          refine ⟨((i + 1 : Nat) : Int), ?_, ⟨i + 1, rfl, by omega, fun j h hj' => ?_, fun j h hj' => ?_⟩, by simp; omega⟩
          · simp only [j1, j2, ne_eq, not_true_eq_false, decide_false, cond_false, Bool.or_self]
            rw [w64 (x := (i : Int) + 1) (by omega) (by omega)]; rfl
          · by_cases e : j = i
            · subst e; exact hk
            · exact hok j h (by omega)
          · by_cases e : j + 1 = i
            · subst e; exact ⟨j1, j2⟩
            · exact hj j h (by omega)
        · right
          refine ⟨.stop false, ?_, .inr ⟨rfl, fun hS => hjn ?_⟩⟩
          · have : (decide (l[i].Num ≠ l[i - 1].Num + 1) || decide (l[i].Begin ≠ l[i - 1].Begin + l[i - 1].Len)) = true := by
              simp only [Bool.or_eq_true, decide_eq_true_eq]
              by_cases h1 : l[i].Num = l[i - 1].Num + 1
              · exact .inr fun h2 => hjn ⟨h1, h2⟩
              · exact .inl h1
            rw [this, cond_true]
          · have := hS.2 (i - 1) (by omega)
            simpa [show i - 1 + 1 = i by omega] using this
    · right
      refine ⟨.stop false, by simp [hk], .inr ⟨rfl, fun hS => hk (hS.1 i hlt)⟩⟩
  · have e : decide ((i : Int) < (l.length : Int)) = false := by simp; omega
    right
    exact ⟨.go (), by simp only [e, cond_false], .inl ⟨rfl, fun j h => hok j h (by omega), fun j h => hj j h (by omega)⟩⟩
open Classical in
theorem rstream_eq (l : List S_api_Segment) (hl : l.length ≤ 4294967296) (n : Nat) (hn : l.length < n) : ref43_Stream n l = some (decide (Strm l ∧ l.length ≤ 1000)) := by
  unfold ref43_Stream
  obtain ⟨r, e, h⟩ := rstream_loop l hl n hn
  rw [e]
  rcases h with ⟨rfl, h⟩ | ⟨rfl, h⟩
  · have e1 : ((l.length : Int) ≤ 1000) ↔ (Strm l ∧ l.length ≤ 1000) := ⟨fun q => ⟨h, by omega⟩, fun q => by have := q.2; omega⟩
    simp only [bindJ_go, e1]
  · have e1 : ¬ (Strm l ∧ l.length ≤ 1000) := fun q => h q.1
    simp only [bindJ_stop, e1, decide_false]
/-- the numbers of the segments follow the first one -/
def Numd (p : S_api_Playlist) : Prop := ∀ k (h : k < p.L.length), p.L[k].Num = p.First + k
theorem rcut_eq (p : S_api_Playlist) (hp : Numd p) (w : Int) (hw0 : 1 ≤ w) (hw : w ≤ 1000000) (hl : p.L.length ≤ 1000000) : ref43_cut p w = some (cutP p w) := by
  unfold ref43_cut cutP
  by_cases h : w < (p.L.length : Int)
  · rw [decide_eq_true h, cond_true, w64 (by omega) (by omega), need_pos (by omega), Int.max_eq_right (by omega)]
    have hlt : ((p.L.length : Int) - w).toNat < p.L.length := by omega
    have h0 : 0 < (p.L.drop ((p.L.length : Int) - w).toNat).length := by simp; omega
    rw [show (0 : Int) = ((0 : Nat) : Int) from rfl, idx_get' h0]
    simp only [bindJ_go, List.getElem_drop]
    have := hp (((p.L.length : Int) - w).toNat + 0) (by omega)
    rw [this]
    congr 2
    omega
  · rw [decide_eq_false h, cond_false, Int.max_eq_left (by omega)]
    simp
theorem cutP_len (p : S_api_Playlist) (w : Int) (hw0 : 1 ≤ w) (hw : w ≤ 100) : (cutP p w).L.length ≤ 100 := by
  unfold cutP; simp; omega
end Go.Proofs.YtbgpojdmdnkeaaaGreatDoor
namespace Go.Proofs.YtbgpojdmdnkeaaaGreatDoor
open Go.Abs
set_option linter.unusedVariables false
set_option linter.unusedSimpArgs false
set_option maxRecDepth 20000
set_option maxHeartbeats 4000000

end Go.Proofs.YtbgpojdmdnkeaaaGreatDoor
