/-
  Texts that stand side by side: AbsPlain, Pa, Pg, G5a, Ph, W5, Pi, Pj.
-/
import Derived.Test.YtbgpojdmdnkeaaaDoorM1
import Derived.Test.YtbgpojdmdnkeaaaDoorFe
namespace Go.Abs
@[simp] theorem bindJ_go {S R : Type} (s : S) (k : S → Option R) : bindJ (some (.go s)) k = k s := rfl
@[simp] theorem bindJ_stop {S R : Type} (r : R) (k : S → Option R) : bindJ (some (.stop r)) k = some r := rfl
@[simp] theorem bindJ_none {S R : Type} (k : S → Option R) : bindJ (none : Option (Lp S R)) k = none := rfl
theorem need_pos {α : Type} {p : Prop} [Decidable p] (h : p) (x : Option α) : need p x = x := by simp [need, h]
theorem idx_get {α β : Type} {l : List α} {i : Nat} {x : α} (h : l[i]? = some x) (k : α → Option β) : idx l (i : Int) k = k x := by simp [idx, h]
theorem idx_get' {α β : Type} {l : List α} {i : Nat} (h : i < l.length) (k : α → Option β) : idx l (i : Int) k = k l[i] := idx_get (List.getElem?_eq_getElem h) k
theorem iter_go {S R : Type} {step : S → Option (Lp S R)} {n : Nat} {s s' : S} (h : step s = some (.go s')) : iter step (n + 1) s = iter step n s' := by simp [iter, h]
theorem iter_stop {S R : Type} {step : S → Option (Lp S R)} {n : Nat} {s : S} {r : R} (h : step s = some (.stop r)) : iter step (n + 1) s = some r := by simp [iter, h]
/-- a loop by an invariant and a measure -/
theorem iter_inv {S R : Type} {step : S → Option (Lp S R)} (inv : S → Prop) (μ : S → Nat) (post : R → Prop)
    (h : ∀ s, inv s → (∃ s', step s = some (.go s') ∧ inv s' ∧ μ s' < μ s) ∨ (∃ r, step s = some (.stop r) ∧ post r)) :
    ∀ (n : Nat) (s : S), inv s → μ s < n → ∃ r, iter step n s = some r ∧ post r
  | 0, s, _, hm => by omega
  | n + 1, s, hi, hm => by
    rcases h s hi with ⟨s', h1, h2, h3⟩ | ⟨r, h1, h2⟩
    · obtain ⟨r, h4, h5⟩ := iter_inv inv μ post h n s' h2 (by omega)
      exact ⟨r, by rw [iter_go h1, h4], h5⟩
    · exact ⟨r, iter_stop h1, h2⟩
theorem w64 {x : Int} (h1 : -9223372036854775808 ≤ x) (h2 : x ≤ 9223372036854775807) : IntKind.i64.wrap x = x := wrap_i64 h1 h2
end Go.Abs
namespace Go.Abs
/-- a walk along a list that may stop -/
def foldL {α S R : Type} (f : S → α → Lp S R) (fin : S → R) : S → List α → R
  | s, [] => fin s
  | s, x :: r => match f s x with
    | .go s' => foldL f fin s' r
    | .stop q => q
def Lp.mapS {S T R : Type} (g : S → T) : Lp S R → Lp T R
  | .go s => .go (g s)
  | .stop r => .stop r
@[simp] theorem mapS_go {S T R : Type} (g : S → T) (s : S) : (Lp.go s : Lp S R).mapS g = .go (g s) := rfl
@[simp] theorem mapS_stop {S T R : Type} (g : S → T) (r : R) : (Lp.stop r : Lp S R).mapS g = .stop r := rfl
/-- a loop that counts along a list -/
theorem iter_fold {α S T R : Type} {step : T → Option (Lp T R)} {l : List α} (mk : Nat → S → T) (f : S → α → Lp S R) (fin : S → R) (inv : Nat → S → Prop)
    (hgo : ∀ i s x, inv i s → l[i]? = some x → step (mk i s) = some ((f s x).mapS (mk (i + 1))) ∧ ∀ s', f s x = .go s' → inv (i + 1) s')
    (hend : ∀ s, inv l.length s → step (mk l.length s) = some (.stop (fin s))) :
    ∀ (n i : Nat) (s : S), inv i s → i ≤ l.length → l.length - i < n → iter step n (mk i s) = some (foldL f fin s (l.drop i))
  | 0, i, s, _, _, h => by omega
  | n + 1, i, s, hi, hle, h => by
    by_cases e : i = l.length
    · subst e
      rw [iter_stop (hend s hi), List.drop_length]; rfl
    · have hlt : i < l.length := by omega
      obtain ⟨h1, h2⟩ := hgo i s _ hi (List.getElem?_eq_getElem hlt)
      rw [List.drop_eq_getElem_cons hlt]
      cases hf : f s l[i] with
      | go s' =>
        rw [hf] at h1
        rw [iter_go h1, iter_fold mk f fin inv hgo hend n (i + 1) s' (h2 s' hf) (by omega) (by omega)]
        simp [foldL, hf]
      | stop q =>
        rw [hf] at h1
        rw [iter_stop h1]
        simp [foldL, hf]
end Go.Abs
namespace Go.Abs
theorem foldL_gom {α S R : Type} {f : S → α → Lp S R} {fin : S → R} (g : S → α → S) : ∀ (l : List α) (s : S), (∀ s x, x ∈ l → f s x = .go (g s x)) → foldL f fin s l = fin (l.foldl g s)
  | [], s, _ => rfl
  | x :: r, s, h => by
    simp only [foldL, h s x (List.mem_cons_self ..), List.foldl_cons]
    exact foldL_gom g r _ (fun s y hy => h s y (List.mem_cons_of_mem _ hy))
/-- a loop that counts up to N -/
theorem iter_range {S T R : Type} {step : T → Option (Lp T R)} (N : Nat) (mk : Nat → S → T) (f : S → Nat → Lp S R) (fin : S → R) (inv : Nat → S → Prop)
    (hgo : ∀ i s, inv i s → i < N → step (mk i s) = some ((f s i).mapS (mk (i + 1))) ∧ ∀ s', f s i = .go s' → inv (i + 1) s')
    (hend : ∀ s, inv N s → step (mk N s) = some (.stop (fin s))) (n : Nat) (s : S) (h0 : inv 0 s) (hn : N < n) : iter step n (mk 0 s) = some (foldL f fin s (List.range N)) := by
  have := iter_fold (l := List.range N) mk f fin inv (fun i s x hi hx => by
    have hlt := (List.getElem?_eq_some_iff.1 hx).1
    simp at hlt
    have : x = i := by simp [hlt] at hx; exact hx.symm
    subst this
    exact hgo x s hi hlt) (fun s hs => by simpa using hend s (by simpa using hs)) n 0 s h0 (Nat.zero_le _) (by simpa using hn)
  simpa using this
theorem iter_allgo {R : Type} {step : Int → Option (Lp Int R)} (N : Nat) (q : R) (h : ∀ i : Nat, i < N → step (i : Int) = some (.go ((i + 1 : Nat) : Int))) (he : step (N : Int) = some (.stop q)) (n : Nat) (hn : N < n) : iter step n 0 = some q := by
  have := iter_range (step := step) N (fun (i : Nat) (_ : Unit) => (i : Int)) (fun _ _ => Lp.go ()) (fun _ => q) (fun _ _ => True) (fun i s _ hi => ⟨h i hi, fun _ _ => trivial⟩) (fun s _ => he) n () trivial hn
  rw [foldL_gom (fun _ _ => ()) _ _ (fun _ _ _ => rfl)] at this
  exact this
end Go.Abs
namespace Go.Proofs.YtbgpojdmdnkeaaaDoor
open Go.Abs
set_option linter.unusedSimpArgs false
set_option linter.unusedVariables false
theorem sane (n : Nat) : law43_sanity (n + 40) = some true := by kernel_rfl
def okSeg (s : S_api_Segment) : Prop := 0 ≤ s.Num ∧ s.Num ≤ 1099511627776 ∧ 0 ≤ s.Begin ∧ s.Begin ≤ 1099511627776 ∧ 1 ≤ s.Len ∧ s.Len ≤ 60000 ∧ 0 ≤ s.Size ∧ s.Size ≤ 1099511627776
instance (s : S_api_Segment) : Decidable (okSeg s) := by unfold okSeg; exact inferInstance
theorem right_eq (s : S_api_Segment) : playlist_right s = some (decide (okSeg s)) := by
  unfold playlist_right
  congr 1
  rw [Bool.eq_iff_iff]
  simp only [Bool.and_eq_true, decide_eq_true_eq]
  unfold okSeg
  omega
def joins (a b : S_api_Segment) : Prop := b.Num = a.Num + 1 ∧ b.Begin = a.Begin + a.Len
instance (a b : S_api_Segment) : Decidable (joins a b) := by unfold joins; exact inferInstance
theorem end_eq {s : S_api_Segment} (h : okSeg s) : playlist_end s = some (s.Begin + s.Len) := by
  unfold playlist_end
  unfold okSeg at h
  rw [w64 (by omega) (by omega)]
def Strm (l : List S_api_Segment) : Prop := (∀ i (h : i < l.length), okSeg l[i]) ∧ ∀ i (h : i + 1 < l.length), joins l[i] l[i + 1]
theorem stream_loop (l : List S_api_Segment) (hl : l.length ≤ 4294967296) (n : Nat) (hn : l.length < n) :
    ∃ r, iter (playlist_stream_L1 l) n 0 = some r ∧ ((r = .go () ∧ Strm l) ∨ (r = .stop false ∧ ¬ Strm l)) := by
  refine iter_inv (step := playlist_stream_L1 l) (fun s : Int => ∃ i : Nat, s = i ∧ i ≤ l.length ∧ (∀ j (h : j < l.length), j < i → okSeg l[j]) ∧ ∀ j (h : j + 1 < l.length), j + 1 < i → joins l[j] l[j + 1]) (fun s => l.length - s.toNat) _ ?_ n 0 ⟨0, rfl, Nat.zero_le _, fun j h hj => by omega, fun j h hj => by omega⟩ (by simpa using hn)
  rintro s ⟨i, rfl, hi, hok, hj⟩
  unfold playlist_stream_L1
  by_cases hlt : i < l.length
  · have e : decide ((i : Int) < (l.length : Int)) = true := by simpa using hlt
    simp only [e, cond_true]
    rw [idx_get' hlt, right_eq]
    simp only [obind, Option.bind_some]
    by_cases hk : okSeg l[i]
    · simp only [hk, decide_true, Bool.not_true, cond_false]
      by_cases h0 : i = 0
      · subst h0
        left
        refine ⟨1, by simp [w64], ⟨1, rfl, by omega, fun j h hj' => ?_, fun j h hj' => by omega⟩, by simp; omega⟩
        obtain rfl : j = 0 := by omega
        exact hk
      · have e1 : decide (0 < (i : Int)) = true := by simp; omega
        simp only [e1, cond_true]
        have hp : i - 1 < l.length := by omega
        rw [w64 (x := (i : Int) - 1) (by omega) (by omega), show (i : Int) - 1 = ((i - 1 : Nat) : Int) by omega, idx_get' hp]
        have hkp := hok (i - 1) hp (by omega)
        rw [end_eq hkp]
        have hkp' := hkp
        unfold okSeg at hkp'
        rw [w64 (x := l[i - 1].Num + 1) (by omega) (by omega)]
        simp only [obind, Option.bind_some]
        by_cases hjn : joins l[i - 1] l[i]
        · left
          obtain ⟨j1, j2⟩ := hjn
          refine ⟨((i + 1 : Nat) : Int), ?_, ⟨i + 1, rfl, by omega, fun j h hj' => ?_, fun j h hj' => ?_⟩, by simp; omega⟩
          · simp only [j1, j2, ne_eq, not_true_eq_false, decide_false, cond_false, bindJ_go]
            rw [w64 (x := (i : Int) + 1) (by omega) (by omega)]; rfl
          · by_cases e : j = i
            · subst e; exact hk
            · exact hok j h (by omega)
          · by_cases e : j + 1 = i
            · subst e; exact ⟨j1, j2⟩
            · exact hj j h (by omega)
        · right
          refine ⟨.stop false, ?_, .inr ⟨rfl, fun hS => hjn ?_⟩⟩
          · by_cases hn : l[i].Num = l[i - 1].Num + 1
            · have hb : ¬ l[i].Begin = l[i - 1].Begin + l[i - 1].Len := fun h => hjn ⟨hn, h⟩
              simp [hn, hb]
            · simp [hn]
          · have := hS.2 (i - 1) (by omega)
            simpa [show i - 1 + 1 = i by omega] using this
    · right
      refine ⟨.stop false, by simp [hk], .inr ⟨rfl, fun hS => hk (hS.1 i hlt)⟩⟩
  · have e : decide ((i : Int) < (l.length : Int)) = false := by simp; omega
    right
    exact ⟨.go (), by simp only [e, cond_false], .inl ⟨rfl, fun j h => hok j h (by omega), fun j h => hj j h (by omega)⟩⟩
open Classical in
theorem stream_eq (l : List S_api_Segment) (hl : l.length ≤ 4294967296) (n : Nat) (hn : l.length < n) : playlist_stream n l = some (decide (Strm l ∧ l.length ≤ 1000)) := by
  unfold playlist_stream
  obtain ⟨r, e, h⟩ := stream_loop l hl n hn
  rw [e]
  rcases h with ⟨rfl, h⟩ | ⟨rfl, h⟩
  · have e1 : ((l.length : Int) ≤ 1000) ↔ (Strm l ∧ l.length ≤ 1000) := ⟨fun q => ⟨h, by omega⟩, fun q => by have := q.2; omega⟩
    simp only [bindJ_go, e1]
  · have e1 : ¬ (Strm l ∧ l.length ≤ 1000) := fun q => h q.1
    simp only [bindJ_stop, e1, decide_false]
def VP (p : S_api_Playlist) : Prop := 0 ≤ p.First ∧ p.First ≤ 1099511627776 ∧ p.L.length ≤ 100 ∧ (∀ h : 0 < p.L.length, p.L[0].Num = p.First) ∧ Strm p.L
theorem next_eq {p : S_api_Playlist} (h : VP p) : playlist_Next p = some (p.First + p.L.length) := by
  unfold playlist_Next
  have := h.2.2.1
  have := h.1
  have := h.2.1
  rw [w64 (by omega) (by omega)]
end Go.Proofs.YtbgpojdmdnkeaaaDoor
namespace Go.Proofs.YtbgpojdmdnkeaaaDoor
open Go.Abs
set_option linter.unusedSimpArgs false
set_option linter.unusedVariables false
def gi (l : List Int) (i : Nat) : Int := (l[i]?).getD 0
def gl (a : List (List Int)) (k : Nat) : List Int := (a[k]?).getD []
theorem gi_at {l : List Int} {i : Nat} (h : i < l.length) : l[i]? = some (gi l i) := by unfold gi; rw [List.getElem?_eq_getElem h]; rfl
theorem gl_at {a : List (List Int)} {k : Nat} (h : k < a.length) : a[k]? = some (gl a k) := by unfold gl; rw [List.getElem?_eq_getElem h]; rfl
theorem gi_get {l : List Int} {i : Nat} (h : i < l.length) : gi l i = l[i] := by unfold gi; rw [List.getElem?_eq_getElem h]; rfl
theorem gi_set_eq {l : List Int} {i : Nat} (h : i < l.length) (v : Int) : gi (l.set i v) i = v := by unfold gi; rw [List.getElem?_set_self h]; rfl
theorem gi_set_ne {l : List Int} {i j : Nat} (h : i ≠ j) (v : Int) : gi (l.set i v) j = gi l j := by unfold gi; rw [List.getElem?_set_ne h]
theorem gl_set_eq {l : List (List Int)} {i : Nat} (h : i < l.length) (v : List Int) : gl (l.set i v) i = v := by unfold gl; rw [List.getElem?_set_self h]; rfl
theorem gl_set_ne {l : List (List Int)} {i j : Nat} (h : i ≠ j) (v : List Int) : gl (l.set i v) j = gl l j := by unfold gl; rw [List.getElem?_set_ne h]
/-- the greatest so far -/
def Pmx (f : Nat → Int) (a : List Int) (N : Nat) : Prop := a.length = N ∧ (0 < N → gi a 0 = f 0) ∧ ∀ i, i + 1 < N → gi a (i + 1) = max (f (i + 1)) (gi a i)
theorem Pmx.bounds {f : Nat → Int} {a : List Int} {N : Nat} (h : Pmx f a N) {B : Int} (hf : ∀ i, i < N → 0 ≤ f i ∧ f i ≤ B) : ∀ i, i < N → 0 ≤ gi a i ∧ gi a i ≤ B := by
  intro i
  induction i with
  | zero => intro hi; rw [h.2.1 hi]; exact hf 0 hi
  | succ i ih => intro hi; have h1 := ih (by omega); have h2 := hf (i + 1) hi; have := h.2.2 i hi; omega
def arrStep {R : Type} (N : Int) (g : Int → Option Int) : (Int × List Int) → Option (Lp (Int × (List Int)) (Lp ((List Int)) R)) :=
 fun (s_8, x_9) =>
  cond (decide (s_8 < N))
   (bindJ (S := (List Int))
    (obind (g s_8) fun r20 =>
    idx x_9 s_8 fun x22 =>
    cond (decide (0 < s_8))
     (idx (x_9.set s_8.toNat r20) (IntKind.i64.wrap (s_8 - 1)) fun x25 =>
     some (.go ((x_9.set s_8.toNat r20).set s_8.toNat (max r20 x25))))
     (some (.go (x_9.set s_8.toNat r20))))
   (fun x_15 =>
    some (.go ((IntKind.i64.wrap (s_8 + 1)), x_15))))
   (some (.stop (.go x_9)))
theorem arr_loop {R : Type} (N : Nat) (hN : N ≤ 1000000) (g : Int → Option Int) (f : Nat → Int) (hg : ∀ i : Nat, i < N → g (i : Int) = some (f i)) (n : Nat) (hn : N < n) :
    ∃ a, iter (arrStep (R := R) (N : Int) g) n (0, List.replicate ((N : Int)).toNat (0 : Int)) = some (.go a) ∧ Pmx f a N := by
  obtain ⟨r, e, a, h1, h2⟩ := iter_inv (step := arrStep (R := R) (N : Int) g) (fun s => ∃ (i : Nat) (x : List Int), s = ((i : Int), x) ∧ i ≤ N ∧ x.length = N ∧ (0 < i → gi x 0 = f 0) ∧ ∀ j, j + 1 < i → gi x (j + 1) = max (f (j + 1)) (gi x j)) (fun s => N - s.1.toNat) (fun r => ∃ a, r = .go a ∧ Pmx f a N) (by
    rintro s ⟨i, x, rfl, hi, hx, h0, hj⟩
    unfold arrStep
    by_cases hlt : i < N
    · have e : decide ((i : Int) < (N : Int)) = true := decide_eq_true (by omega)
      simp only [e, cond_true]
      rw [hg i hlt]
      simp only [obind, Option.bind_some]
      rw [idx_get (gi_at (l := x) (i := i) (by omega))]
      left
      by_cases hz : i = 0
      · subst hz
        refine ⟨((1 : Nat), x.set 0 (f 0)), rfl, ⟨1, x.set 0 (f 0), rfl, by omega, by simp [hx], fun _ => gi_set_eq (by omega) _, fun j hj' => by omega⟩, by simp; omega⟩
      · have e1 : decide ((0 : Int) < (i : Int)) = true := decide_eq_true (by omega)
        simp only [e1, cond_true, Int.toNat_natCast]
        rw [w64 (x := (i : Int) - 1) (by omega) (by omega), show (i : Int) - 1 = ((i - 1 : Nat) : Int) by omega, idx_get (gi_at (l := x.set i (f i)) (i := i - 1) (by simp; omega)), gi_set_ne (by omega), bindJ_go,
          w64 (x := (i : Int) + 1) (by omega) (by omega)]
        refine ⟨_, rfl, ⟨i + 1, (x.set i (f i)).set i (max (f i) (gi x (i - 1))), rfl, by omega, by simp [hx], fun _ => ?_, fun j hj' => ?_⟩, by simp; omega⟩
        · rw [gi_set_ne (by omega), gi_set_ne (by omega)]; exact h0 (by omega)
        · by_cases e2 : j + 1 = i
          · subst e2
            rw [gi_set_eq (by simp; omega), gi_set_ne (by omega), gi_set_ne (by omega), Nat.add_sub_cancel]
          · rw [gi_set_ne (by omega), gi_set_ne (by omega), gi_set_ne (by omega), gi_set_ne (by omega)]
            exact hj j (by omega)
    · have e : decide ((i : Int) < (N : Int)) = false := decide_eq_false (by omega)
      obtain rfl : i = N := by omega
      right
      exact ⟨_, by simp only [e, cond_false], x, rfl, hx, h0, hj⟩) n (0, List.replicate ((N : Int)).toNat (0 : Int)) ⟨0, _, rfl, by omega, by simp, fun h => by omega, fun j h => by omega⟩ (by simpa using hn)
  exact ⟨a, by rw [e, h1], h2⟩
def sEnd (l : List S_api_Segment) (i : Nat) : Int := ((l[i]?).map fun s => s.Begin + s.Len).getD 0
theorem sEnd_at {l : List S_api_Segment} {i : Nat} (h : i < l.length) : sEnd l i = l[i].Begin + l[i].Len := by unfold sEnd; rw [List.getElem?_eq_getElem h]; rfl
theorem sEnd_bounds {l : List S_api_Segment} (hs : Strm l) {i : Nat} (h : i < l.length) : 0 ≤ sEnd l i ∧ sEnd l i ≤ 2199023255552 := by
  have := hs.1 i h
  unfold okSeg at this
  rw [sEnd_at h]; omega
theorem end_get {l : List S_api_Segment} (hs : Strm l) {i : Nat} (h : i < l.length) : playlist_end l[i] = some (sEnd l i) := by
  rw [end_eq (hs.1 i h), sEnd_at h]
theorem first_row {l : List S_api_Segment} (hs : Strm l) (hl : l.length ≤ 1000) (n : Nat) (hn : 1000 < n) (a : List (List Int)) (ha : 0 < a.length) :
    ∃ x, playlist_Spread_1_38 n 0 l a = some (a.set 0 x) ∧ Pmx (sEnd l) x l.length := by
  unfold playlist_Spread_1_38
  rw [need_pos (by omega)]
  obtain ⟨x, e, h⟩ := arr_loop (R := List (List Int)) l.length (by omega) (fun s => playlist_Spread_2_39 s l) (sEnd l) (fun i hi => by
    unfold playlist_Spread_2_39
    rw [idx_get' hi, end_get hs hi]
    rfl) n (by omega)
  have e' : iter (playlist_Spread_1_38_L1 l) n (0, List.replicate ((l.length : Int)).toNat (0 : Int)) = some (.go x) := e
  rw [e', bindJ_go, show (0 : Int) = ((0 : Nat) : Int) from rfl, idx_get (gl_at ha)]
  exact ⟨x, rfl, h⟩
theorem next_row {N : Nat} (l : List S_api_Segment) (hl : l.length ≤ 1000) (delays a : List (List Int)) (k p : Nat) (hk : k < a.length) (hp : p < a.length) (hd : k < delays.length) (hpl : (gl a p).length = l.length) (hdl : (gl delays k).length = l.length)
    (hb : ∀ i, i < l.length → -4611686018427387904 ≤ gi (gl a p) i + gi (gl delays k) i ∧ gi (gl a p) i + gi (gl delays k) i ≤ 4611686018427387904) (n : Nat) (hn : 1000 < n) :
    ∃ x, playlist_Spread_1_38_v1 n (k : Int) a (p : Int) delays (k : Int) l = some (a.set k x) ∧ Pmx (fun i => gi (gl a p) i + gi (gl delays k) i) x l.length := by
  unfold playlist_Spread_1_38_v1
  rw [need_pos (by omega)]
  obtain ⟨x, e, h⟩ := arr_loop (R := List (List Int)) l.length (by omega) (fun s => playlist_Spread_4_43 s a (p : Int) delays (k : Int)) (fun i => gi (gl a p) i + gi (gl delays k) i) (fun i hi => by
    unfold playlist_Spread_4_43
    have := hb i hi
    rw [idx_get (gl_at hp), idx_get (gi_at (by omega)), idx_get (gl_at hd), idx_get (gi_at (by omega)), w64 (by omega) (by omega)]) n (by omega)
  have e' : iter (playlist_Spread_1_38_v1_L1 a (p : Int) delays (k : Int) l) n (0, List.replicate ((l.length : Int)).toNat (0 : Int)) = some (.go x) := e
  rw [e', bindJ_go, idx_get (gl_at hk)]
  exact ⟨x, rfl, h⟩
theorem bad_delay (l : List Int) (hl : l.length ≤ 1000000) (n : Nat) (hn : l.length < n) : slices_ContainsFunc_int_int_41 n l = some (l.any fun d => decide (d < 0) || decide (1099511627776 < d)) := by
  unfold slices_ContainsFunc_int_int_41 slices_IndexFunc_int_int_44
  have key := iter_fold (l := l) (step := slices_IndexFunc_int_int_44_L1 l) (fun i (_ : Nat) => (i : Int)) (fun (i : Nat) d => cond (decide (d < 0) || decide (1099511627776 < d)) (.stop (.stop (i : Int))) (.go (i + 1))) (fun _ => .go ()) (fun i j => i = j) (by
    rintro i j x rfl hx
    obtain ⟨hi, rfl⟩ := List.getElem?_eq_some_iff.1 hx
    unfold slices_IndexFunc_int_int_44_L1 playlist_Spread_3_42
    have e : decide ((i : Int) < (l.length : Int)) = true := decide_eq_true (by omega)
    simp only [e, cond_true]
    rw [idx_get' hi]
    simp only [obind, Option.bind_some]
    cases decide (l[i] < 0) || decide (1099511627776 < l[i])
    · simp only [cond_false, mapS_go]
      rw [w64 (by omega) (by omega)]
      exact ⟨rfl, fun s' hs => by cases hs; rfl⟩
    · exact ⟨rfl, fun s' hs => by cases hs⟩) (by
    intro s hs
    unfold slices_IndexFunc_int_int_44_L1
    simp) n 0 0 rfl (Nat.zero_le _) (by omega)
  have e : iter (slices_IndexFunc_int_int_44_L1 l) n 0 = _ := key
  rw [e, List.drop_zero]
  have gen : ∀ (l : List Int) (k : Nat), ∃ r, foldL (fun (i : Nat) d => cond (decide (d < 0) || decide (1099511627776 < d)) (Lp.stop (.stop (i : Int))) (.go (i + 1))) (fun _ => (.go () : Lp Unit Int)) k l = r ∧ ((r = .go () ∧ (l.any fun d => decide (d < 0) || decide (1099511627776 < d)) = false) ∨ (∃ j : Nat, r = .stop (j : Int)) ∧ (l.any fun d => decide (d < 0) || decide (1099511627776 < d)) = true) := by
    intro l
    induction l with
    | nil => intro k; exact ⟨_, rfl, .inl ⟨rfl, rfl⟩⟩
    | cons x r ih =>
      intro k
      unfold foldL
      rw [List.any_cons]
      cases decide (x < 0) || decide (1099511627776 < x)
      · simpa using ih (k + 1)
      · exact ⟨_, rfl, .inr ⟨⟨k, rfl⟩, rfl⟩⟩
  obtain ⟨r, e, h⟩ := gen l 0
  rw [e]
  rcases h with ⟨rfl, h⟩ | ⟨⟨j, rfl⟩, h⟩
  · rw [h]; rfl
  · rw [h]; simp [obind]
/-- places and delays are as they must be -/
def TreeAt (N : Nat) (parents : List Int) (delays : List (List Int)) (k : Nat) : Prop := 0 ≤ gi parents k ∧ gi parents k < k ∧ (gl delays k).length = N ∧ ∀ d ∈ gl delays k, 0 ≤ d ∧ d ≤ 1099511627776
def Tree (N : Nat) (parents : List Int) (delays : List (List Int)) : Prop := 1 ≤ parents.length ∧ parents.length ≤ 100 ∧ delays.length = parents.length ∧ ∀ k, 1 ≤ k → k < parents.length → TreeAt N parents delays k
def SprTo (l : List S_api_Segment) (parents : List Int) (delays out : List (List Int)) (K : Nat) : Prop :=
  Pmx (sEnd l) (gl out 0) l.length ∧ ∀ k, 1 ≤ k → k < K → Pmx (fun i => gi (gl out (gi parents k).toNat) i + gi (gl delays k) i) (gl out k) l.length
def Spr (l : List S_api_Segment) (parents : List Int) (delays out : List (List Int)) : Prop := out.length = parents.length ∧ SprTo l parents delays out parents.length
theorem spr_bounds {l : List S_api_Segment} (hs : Strm l) {parents : List Int} {delays out : List (List Int)} {K : Nat} (hT : ∀ k, 1 ≤ k → k < K → TreeAt l.length parents delays k) (h : SprTo l parents delays out K) :
    ∀ k, k < K → ∀ i, i < l.length → 0 ≤ gi (gl out k) i ∧ gi (gl out k) i ≤ 2199023255552 + 1099511627776 * (k : Int) := by
  intro k
  induction k using Nat.strongRecOn with
  | _ k ih =>
    intro hk
    by_cases h0 : k = 0
    · subst h0
      intro i hi
      have := h.1.bounds (B := 2199023255552) (fun i hi => sEnd_bounds hs hi) i hi
      omega
    · obtain ⟨t1, t2, t3, t4⟩ := hT k (by omega) hk
      refine (h.2 k (by omega) hk).bounds (fun i hi => ?_)
      have h1 := ih (gi parents k).toNat (by omega) (by omega) i hi
      have h2 := t4 (gi (gl delays k) i) (by rw [gi_get (by omega)]; exact List.getElem_mem _)
      omega
theorem sprTo_set {l : List S_api_Segment} {parents : List Int} {delays out : List (List Int)} {k : Nat} (hk : 1 ≤ k) (hl : k < out.length) (hT : ∀ j, 1 ≤ j → j < k + 1 → gi parents j < j ∧ 0 ≤ gi parents j) (h : SprTo l parents delays out k) {x : List Int}
    (hx : Pmx (fun i => gi (gl out (gi parents k).toNat) i + gi (gl delays k) i) x l.length) : SprTo l parents delays (out.set k x) (k + 1) := by
  refine ⟨by rw [gl_set_ne (by omega)]; exact h.1, fun j hj hjk => ?_⟩
  have hp := hT j hj hjk
  rw [gl_set_ne (i := k) (j := (gi parents j).toNat) (by omega)]
  by_cases e : j = k
  · subst e; rw [gl_set_eq hl]; exact hx
  · rw [gl_set_ne (by omega)]; exact h.2 j hj (by omega)
theorem spread_loop (l : List S_api_Segment) (hs : Strm l) (hl : l.length ≤ 1000) (parents : List Int) (delays : List (List Int)) (hp : parents.length ≤ 100) (hd : delays.length = parents.length) (hdl : ∀ d ∈ delays, d.length ≤ 1000000)
    (out : List (List Int)) (ho : out.length = parents.length) (h1 : SprTo l parents delays out 1) (hpos : 1 ≤ parents.length) (n : Nat) (hn : 2000000 < n) :
    ∃ r, iter (playlist_Spread_L1 n l parents delays) n (1, out) = some r ∧ ((∃ o, r = .go o ∧ Spr l parents delays o ∧ ∀ k, 1 ≤ k → k < parents.length → TreeAt l.length parents delays k) ∨ (r = .stop ([], 1) ∧ ¬ ∀ k, 1 ≤ k → k < parents.length → TreeAt l.length parents delays k)) := by
  refine iter_inv (step := playlist_Spread_L1 n l parents delays) (fun s => ∃ (k : Nat) (o : List (List Int)), s = ((k : Int), o) ∧ 1 ≤ k ∧ k ≤ parents.length ∧ o.length = parents.length ∧ SprTo l parents delays o k ∧ ∀ j, 1 ≤ j → j < k → TreeAt l.length parents delays j) (fun s => parents.length - s.1.toNat) _ ?_ n (1, out) ⟨1, out, rfl, by omega, hpos, ho, h1, fun j a b => by omega⟩ (by simp; omega)
  rintro s ⟨k, o, rfl, hk1, hk, hol, hS, hT⟩
  unfold playlist_Spread_L1
  by_cases hlt : k < parents.length
  · have e : decide ((k : Int) < (parents.length : Int)) = true := decide_eq_true (by omega)
    simp only [e, cond_true]
    rw [idx_get (gi_at hlt)]
    have bad : ∀ h : ¬ TreeAt l.length parents delays k, ¬ ∀ k, 1 ≤ k → k < parents.length → TreeAt l.length parents delays k := fun h q => h (q k hk1 hlt)
    by_cases hr : gi parents k < 0 ∨ (k : Int) ≤ gi parents k
    · have e1 : (decide (gi parents k < 0) || decide ((k : Int) ≤ gi parents k)) = true := by simp only [Bool.or_eq_true, decide_eq_true_eq]; exact hr
      right
      refine ⟨.stop ([], 1), ?_, .inr ⟨rfl, bad fun q => ?_⟩⟩
      · simp only [e1, cond_true, bindJ_go]
      · have := q.1; have := q.2.1; omega
    · have e1 : (decide (gi parents k < 0) || decide ((k : Int) ≤ gi parents k)) = false := by
        rw [Bool.eq_false_iff]; intro h; simp only [Bool.or_eq_true, decide_eq_true_eq] at h; exact hr h
      simp only [e1, cond_false]
      have hkd : k < delays.length := by omega
      have hdk := hdl (gl delays k) (by unfold gl; rw [List.getElem?_eq_getElem hkd]; exact List.getElem_mem _)
      rw [idx_get (gl_at hkd), bindJ_go]
      by_cases hq : (gl delays k).length = l.length
      · have e2 : decide (((gl delays k).length : Int) ≠ (l.length : Int)) = false := decide_eq_false (by omega)
        simp only [e2, cond_false]
        rw [idx_get (gl_at hkd), bad_delay _ hdk n (by omega)]
        simp only [obind, Option.bind_some, bindJ_go]
        cases ha : (gl delays k).any fun d => decide (d < 0) || decide (1099511627776 < d) with
        | true =>
          right
          refine ⟨.stop ([], 1), rfl, .inr ⟨rfl, bad fun q => ?_⟩⟩
          obtain ⟨d, hd1, hd2⟩ := List.any_eq_true.1 ha
          have := q.2.2.2 d hd1
          simp only [Bool.or_eq_true, decide_eq_true_eq] at hd2
          omega
        | false =>
          have hT' : TreeAt l.length parents delays k := by
            refine ⟨by omega, by omega, hq, fun d hd' => ?_⟩
            have := List.any_eq_false.1 ha d hd'
            simp only [Bool.or_eq_true, decide_eq_true_eq] at this
            omega
          have hTk : ∀ j, 1 ≤ j → j < k + 1 → TreeAt l.length parents delays j := fun j a b => by
            by_cases ej : j = k
            · subst ej; exact hT'
            · exact hT j a (by omega)
          have hpk : (gi parents k).toNat < k := by have := hT'.1; have := hT'.2.1; omega
          have hplen : (gl o (gi parents k).toNat).length = l.length := by
            by_cases e0 : (gi parents k).toNat = 0
            · rw [e0]; exact hS.1.1
            · exact (hS.2 _ (by omega) hpk).1
          have hbd := spr_bounds hs hT hS (gi parents k).toNat hpk
          obtain ⟨x, e3, hx⟩ := next_row (N := 0) l hl delays o k (gi parents k).toNat (by omega) (by omega) hkd hplen hq (fun i hi => by
            have a1 := hbd i hi
            have a2 := hT'.2.2.2 (gi (gl delays k) i) (by rw [gi_get (by omega)]; exact List.getElem_mem _)
            omega) n (by omega)
          rw [show (((gi parents k).toNat : Nat) : Int) = gi parents k by have := hT'.1; omega] at e3
          left
          refine ⟨(((k + 1 : Nat) : Int), o.set k x), ?_, ⟨k + 1, o.set k x, rfl, by omega, by omega, by simp [hol], sprTo_set hk1 (by omega) (fun j a b => ⟨(hTk j a b).2.1, (hTk j a b).1⟩) hS hx, hTk⟩, by simp; omega⟩
          simp only [cond_false]
          rw [e3, w64 (by omega) (by omega)]; rfl
      · have e2 : decide (((gl delays k).length : Int) ≠ (l.length : Int)) = true := decide_eq_true (by omega)
        right
        refine ⟨.stop ([], 1), ?_, .inr ⟨rfl, bad fun q => hq q.2.2.1⟩⟩
        simp only [e2, cond_true, bindJ_go]
  · have e : decide ((k : Int) < (parents.length : Int)) = false := decide_eq_false (by omega)
    obtain rfl : k = parents.length := by omega
    right
    exact ⟨_, by simp only [e, cond_false], .inl ⟨o, rfl, ⟨hol, hS⟩, hT⟩⟩
open Classical in
theorem spread_eq (l : List S_api_Segment) (hl : l.length ≤ 1000) (parents : List Int) (delays : List (List Int)) (hdl : ∀ d ∈ delays, d.length ≤ 1000000) (n : Nat) (hn : 2000000 < n) :
    ∃ r, playlist_Spread n l parents delays = some r ∧ ((r.2 = 0 ∧ Strm l ∧ Tree l.length parents delays ∧ Spr l parents delays r.1) ∨ (r = ([], 1) ∧ ¬ (Strm l ∧ Tree l.length parents delays))) := by
  unfold playlist_Spread
  rw [stream_eq l (by omega) n (by omega)]
  simp only [obind, Option.bind_some]
  by_cases hs : Strm l ∧ l.length ≤ 1000
  · simp only [decide_eq_true hs, Bool.not_true, Bool.false_or]
    by_cases hc : parents.length < 1 ∨ 100 < parents.length ∨ delays.length ≠ parents.length
    · have e : ((decide ((parents.length : Int) < 1) || decide (100 < (parents.length : Int))) || decide ((delays.length : Int) ≠ (parents.length : Int))) = true := by
        simp only [Bool.or_eq_true, decide_eq_true_eq]; omega
      rw [e, cond_true]
      exact ⟨_, rfl, .inr ⟨rfl, fun h => by obtain ⟨_, a, b, c, _⟩ := h; omega⟩⟩
    · have e : ((decide ((parents.length : Int) < 1) || decide (100 < (parents.length : Int))) || decide ((delays.length : Int) ≠ (parents.length : Int))) = false := by
        rw [Bool.eq_false_iff]; intro h; simp only [Bool.or_eq_true, decide_eq_true_eq] at h; omega
      rw [e, cond_false, need_pos (by omega)]
      obtain ⟨x, e1, hx⟩ := first_row hs.1 hs.2 n (by omega) (List.replicate ((parents.length : Int)).toNat ([] : List Int)) (by simp; omega)
      rw [e1]
      simp only [Option.bind_some]
      obtain ⟨r, e2, h⟩ := spread_loop l hs.1 hl parents delays (by omega) (by omega) hdl ((List.replicate ((parents.length : Int)).toNat ([] : List Int)).set 0 x) (by simp) ⟨by rw [gl_set_eq (by simp; omega)]; exact hx, fun k a b => by omega⟩ (by omega) n hn
      rw [e2]
      rcases h with ⟨o, rfl, h1, h2⟩ | ⟨rfl, h⟩
      · exact ⟨_, rfl, .inl ⟨rfl, hs.1, ⟨by omega, by omega, by omega, h2⟩, h1⟩⟩
      · exact ⟨_, rfl, .inr ⟨rfl, fun q => h q.2.2.2.2⟩⟩
  · simp only [decide_eq_false hs, Bool.not_false, Bool.true_or, cond_true]
    exact ⟨_, rfl, .inr ⟨rfl, fun q => hs ⟨q.1, hl⟩⟩⟩
end Go.Proofs.YtbgpojdmdnkeaaaDoor
namespace Go.Proofs.YtbgpojdmdnkeaaaDoor
open Go.Abs
set_option linter.unusedVariables false
set_option linter.unusedSimpArgs false
set_option maxRecDepth 20000
set_option maxHeartbeats 4000000

def law43_small_L1 (delays_2 : (List (List Int))) : (Int) → Option (Lp (Int) (Lp (Unit) (Bool))) :=
 fun s_5 =>
  cond (decide (s_5 < (delays_2.length : Int)))
   (idx delays_2 s_5 fun x11 =>
   cond (decide (60 < (x11.length : Int)))
    (some (.stop (.stop false)))
    (some (.go (IntKind.i64.wrap (s_5 + 1)))))
   (some (.stop (.go ())))
def law43_small (n : Nat) (l_0 : (List S_api_Segment)) (parents_1 : (List Int)) (delays_2 : (List (List Int))) : Option (Bool) :=
 bindJ (S := Unit)
  (iter (law43_small_L1 delays_2) n 0)
 (fun _ =>
  some ((decide ((l_0.length : Int) ≤ 60) && decide ((parents_1.length : Int) ≤ 12)) && decide ((delays_2.length : Int) ≤ 12)))
theorem law43_small_ok (n : Nat) (l_0 : (List S_api_Segment)) (parents_1 : (List Int)) (delays_2 : (List (List Int))) (l_0v : Value) (parents_1v : Value) (delays_2v : Value) {r : Bool} (h : law43_small n l_0 parents_1 delays_2 = some r) :
  Meets Tryd.prog 16 [l_0v, parents_1v, delays_2v] [ro l_0v 20 (l_0.map S_api_Segment.enc), ro parents_1v 1 (parents_1.map (eInt .i64)), nro delays_2v NC_L_int_46 delays_2] (fun v G => v = .bool r ∧ G = []) := by
 refine fn_of_run Tryd.func16 rfl Tryd.ntmps16 rfl (fun w0 o0 => ?_)
 refine run_seq ?_
 refine run_region' ?_
 refine oy rfl rfl (y_assign rfl) ?_
 refine ops_nil ?_
 refine goes_code ?_
 obtain ⟨o1, h, ho2⟩ := bindJ_some h
 refine run_cut ((Unit) × (Unit)) (fun σ => [(0, l_0v), (1, parents_1v), (2, delays_2v)]) (fun σ => [ro l_0v 20 (l_0.map S_api_Segment.enc), ro parents_1v 1 (parents_1.map (eInt .i64)), nro delays_2v NC_L_int_46 delays_2]) (fun σ => o1 = .go σ.1) (fun L4 hL3 => ?_) ?_
 ·
  refine run_seq ?_
  refine run_region' ?_
  refine oy rfl rfl (y_move rfl) ?_
  refine oy rfl rfl (y_lenN 2 rfl Tryd.runUnderlying47 rfl rfl readsN_ro) ?_
  refine oy rfl rfl (y_move rfl) ?_
  refine ops_nil ?_
  refine goes_code ?_
  refine run_block ?_
  refine run_iter (step := law43_small_L1 delays_2) (n := n) (s0 := 0) h (G := Unit) () (fun σ γ => [(11, .int .i64 σ), (0, l_0v), (1, parents_1v), (2, delays_2v), (9, delays_2v), (10, .int .i64 (delays_2.length : Int))]) (fun σ γ => [ro l_0v 20 (l_0.map S_api_Segment.enc), ro parents_1v 1 (parents_1.map (eInt .i64)), nro delays_2v NC_L_int_46 delays_2]) [0, 1, 2] (qv6 rfl rfl rfl rfl rfl rfl) (by decide) rfl ?_
  rintro s_5 _ o6 h L9 hgo7 hstop8
  change Run _ _ _ (VF.of [(11, .int .i64 s_5), (0, l_0v), (1, parents_1v), (2, delays_2v), (9, delays_2v), (10, .int .i64 (delays_2.length : Int))]) [ro l_0v 20 (l_0.map S_api_Segment.enc), ro parents_1v 1 (parents_1.map (eInt .i64)), nro delays_2v NC_L_int_46 delays_2]
  refine run_seq ?_
  refine run_region' ?_
  refine oy rfl rfl (y_lss rfl rfl) ?_
  refine ops_nil ?_
  refine goes_code ?_
  refine run_seq ?_
  refine run_cond (decide (s_5 < (delays_2.length : Int))) rfl (fun hc10 => ?_) (fun hc10 => ?_)
  ·replace h := cond_t h hc10
   refine run_skip ?_
   refine goes_code ?_
   refine run_seq ?_
   refine run_block ?_
   refine run_seq ?_
   refine run_region' ?_
   obtain ⟨x11, hzx11, hlx11, hxx11, h⟩ := idx_some h
   refine oy rfl rfl (y_indexAddrN (kd := .i64) (i := s_5) 2 Tryd.runUnderlying47 Tryd.sizeOf46 rfl rfl rfl readsN_ro hzx11 hlx11) ?_
   refine ops_ex (exAt (C := NC_L_int_46) (i := s_5.toNat) 2 rfl hxx11) ?_
   rintro g12
   refine oy rfl rfl (y_load_at (n := s_5.toNat * 1) (j := 0) 3 Tryd.isAgg46 rfl rfl rfl) ?_
   refine oy rfl rfl (y_assign rfl) ?_
   refine ops_nil ?_
   refine goes_code ?_
   refine run_seq ?_
   refine run_region' ?_
   refine oy rfl rfl (y_move rfl) ?_
   refine oy rfl rfl ((y_len 4 rfl Tryd.runUnderlying46 rfl rfl reads_ro).to (v_len (eInt .i64) _)) ?_
   refine oy rfl rfl (y_gtr rfl rfl) ?_
   refine ops_nil ?_
   refine goes_code ?_
   refine run_cond (decide (60 < (x11.length : Int))) rfl (fun hc13 => ?_) (fun hc13 => ?_)
   ·replace h := cond_t h hc13
    refine run_seq ?_
    refine run_region' ?_
    refine oy rfl rfl (y_assign rfl) ?_
    refine ops_nil ?_
    refine goes_code ?_
    refine run_ret ?_
    obtain rfl := some_eq h
    obtain rfl := hstop8 _ rfl
    skip
    obtain rfl := after_stop ho2
    refine fin_slots [6] [.bool false] [] [] Tryd.results16 rfl (by decide) rfl ?_
    exact ⟨rfl, rfl⟩
   ·replace h := cond_f h hc13
    refine run_skip ?_
    refine goes_blk ?_
    refine goes_code ?_
    refine run_region' ?_
    refine oy rfl rfl (y_add rfl rfl) ?_
    refine oy rfl rfl (y_move rfl) ?_
    refine ops_nil ?_
    obtain rfl := some_eq h
    exact goes_iter hgo7 (IntKind.i64.wrap (s_5 + 1)) () [0, 1, 2] rfl (qv6 rfl rfl rfl rfl rfl rfl) (by decide) rfl
  ·replace h := cond_f h hc10
   refine run_exit _ rfl ?_
   obtain rfl := some_eq h
   obtain rfl := hstop8 _ rfl
   exact goes_cut hL3 ((), ()) [0, 1, 2] (qv3 rfl rfl rfl) (by decide) rfl rfl
 rintro ⟨_, _⟩ hj
 obtain rfl : o1 = _ := hj
 replace h := after_go ho2
 clear ho2
 change Run _ _ _ (VF.of [(0, l_0v), (1, parents_1v), (2, delays_2v)]) [ro l_0v 20 (l_0.map S_api_Segment.enc), ro parents_1v 1 (parents_1.map (eInt .i64)), nro delays_2v NC_L_int_46 delays_2]
 refine run_seq ?_
 refine run_region' ?_
 refine oy rfl rfl (y_move rfl) ?_
 refine oy rfl rfl ((y_len 0 rfl Tryd.runUnderlying22 rfl rfl reads_ro).to (v_len S_api_Segment.enc _)) ?_
 refine oy rfl rfl (y_leq rfl rfl) ?_
 refine oy rfl rfl (y_move rfl) ?_
 refine ops_cut 4 (Bool) (fun σ => [(2, delays_2v), (26, .bool σ)]) (fun σ => [nro delays_2v NC_L_int_46 delays_2]) (fun σ => σ = (decide ((l_0.length : Int) ≤ 60) && decide ((parents_1.length : Int) ≤ 12))) (fun L14 hL15 => ?_) ?_
 ·refine ops_split 22 (decide ((l_0.length : Int) ≤ 60)) rfl (fun hg16 => ?_) (fun hg16 => ?_)
  ·skip
   refine ops_y (wg 3 true 22 rfl rfl rfl rfl) rfl (y_move rfl) ?_
   refine ops_y (wg 3 true 22 rfl rfl rfl rfl) rfl ((y_len 1 rfl Tryd.runUnderlying46 rfl rfl reads_ro).to (v_len (eInt .i64) _)) ?_
   refine ops_y (wg 3 true 22 rfl rfl rfl rfl) rfl (y_leq rfl rfl) ?_
   refine oy rfl rfl (y_pick (b := true) rfl rfl) ?_
   refine ops_nil ?_
   exact goes_cut hL15 (decide ((parents_1.length : Int) ≤ 12)) [2] (qv2 rfl rfl) (by decide) rfl (by rw [hg16]; simp)
  ·skip
   refine ops_no 3 true 22 rfl rfl rfl rfl rfl ?_
   refine ops_no 3 true 22 rfl rfl rfl rfl rfl ?_
   refine ops_no 3 true 22 rfl rfl rfl rfl rfl ?_
   refine oy rfl rfl (y_pick (b := false) rfl rfl) ?_
   refine ops_nil ?_
   exact goes_cut hL15 false [2] (qv2 rfl rfl) (by decide) rfl (by rw [hg16]; simp)
 rintro _ rfl
 refine oy rfl rfl (y_move rfl) ?_
 refine ops_cut 4 (Bool) (fun σ => [(31, .bool σ)]) (fun σ => []) (fun σ => σ = ((decide ((l_0.length : Int) ≤ 60) && decide ((parents_1.length : Int) ≤ 12)) && decide ((delays_2.length : Int) ≤ 12))) (fun L17 hL18 => ?_) ?_
 ·refine ops_split 27 (decide ((l_0.length : Int) ≤ 60) && decide ((parents_1.length : Int) ≤ 12)) rfl (fun hg19 => ?_) (fun hg19 => ?_)
  ·skip
   refine ops_y (wg 8 true 27 rfl rfl rfl rfl) rfl (y_move rfl) ?_
   refine ops_y (wg 8 true 27 rfl rfl rfl rfl) rfl (y_lenN 0 rfl Tryd.runUnderlying47 rfl rfl readsN_ro) ?_
   refine ops_y (wg 8 true 27 rfl rfl rfl rfl) rfl (y_leq rfl rfl) ?_
   refine oy rfl rfl (y_pick (b := true) rfl rfl) ?_
   refine ops_nil ?_
   exact goes_cut hL18 (decide ((delays_2.length : Int) ≤ 12)) [] (qv1 rfl) (by decide) rfl (by rw [hg19]; simp)
  ·skip
   refine ops_no 8 true 27 rfl rfl rfl rfl rfl ?_
   refine ops_no 8 true 27 rfl rfl rfl rfl rfl ?_
   refine ops_no 8 true 27 rfl rfl rfl rfl rfl ?_
   refine oy rfl rfl (y_pick (b := false) rfl rfl) ?_
   refine ops_nil ?_
   exact goes_cut hL18 false [] (qv1 rfl) (by decide) rfl (by rw [hg19]; simp)
 rintro _ rfl
 refine oy rfl rfl (y_assign rfl) ?_
 refine ops_nil ?_
 refine goes_code ?_
 refine run_ret ?_
 obtain rfl := some_eq h
 refine fin_slots [6] [.bool ((decide ((l_0.length : Int) ≤ 60) && decide ((parents_1.length : Int) ≤ 12)) && decide ((delays_2.length : Int) ≤ 12))] [] [] Tryd.results16 rfl (by decide) rfl ?_
 exact ⟨rfl, rfl⟩

def law43_depths_L1 (parents_0 : (List Int)) : (Int × (List Int)) → Option (Lp (Int × (List Int)) (Lp ((List Int)) ((List Int)))) :=
 fun (k_8, x_9) =>
  cond (decide (k_8 < (parents_0.length : Int)))
   (idx parents_0 k_8 fun x15 =>
   idx x_9 x15 fun x16 =>
   idx x_9 k_8 fun x17 =>
   some (.go ((IntKind.i64.wrap (k_8 + 1)), (x_9.set k_8.toNat (IntKind.i64.wrap (x16 + 1))))))
   (some (.stop (.go x_9)))
def law43_depths (n : Nat) (parents_0 : (List Int)) : Option ((List Int)) :=
 need (0 ≤ (parents_0.length : Int) ∧ (parents_0.length : Int) ≤ 4294967296) (
 bindJ (S := (List Int))
  (iter (law43_depths_L1 parents_0) n (1, (List.replicate ((parents_0.length : Int)).toNat (0 : Int))))
 (fun x_3 =>
  some x_3))
theorem law43_depths_ok (n : Nat) (parents_0 : (List Int)) (parents_0v : Value) {r : (List Int)} (h : law43_depths n parents_0 = some r) :
  Meets Tryd.prog 18 [parents_0v] [ro parents_0v 1 (parents_0.map (eInt .i64))] (fun v G => ∃ v0, v = v0 ∧ G = [row v0 1 (r.map (eInt .i64))]) := by
 refine fn_of_run Tryd.func18 rfl Tryd.ntmps18 rfl (fun w0 o0 => ?_)
 refine run_seq ?_
 refine run_region' ?_
 refine oy rfl rfl (y_assign rfl) ?_
 refine ops_nil ?_
 refine goes_code ?_
 refine run_seq ?_
 refine run_region' ?_
 refine oy rfl rfl (y_move rfl) ?_
 refine oy rfl rfl ((y_len 0 rfl Tryd.runUnderlying46 rfl rfl reads_ro).to (v_len (eInt .i64) _)) ?_
 obtain ⟨hm2, h⟩ := need_some h
 refine ot rfl rfl (t_makeSlice (es := 1) Tryd.runUnderlying46 Tryd.typeInfo3 rfl Tryd.zeroValue3 rfl (by decide) rfl rfl hm2.1 hm2.2 (by decide)) ?_
 rintro v1 _ rfl
 refine ops_turn (retell 1 (g := row v1 1 ((List.replicate ((parents_0.length : Int)).toNat (0 : Int)).map (eInt .i64))) rfl (congrArg (row _ _) (map_rep rfl))) ?_
 refine oy rfl rfl (y_assign rfl) ?_
 refine ops_nil ?_
 refine goes_code ?_
 obtain ⟨o4, h, ho5⟩ := bindJ_some h
 refine run_cut (((List Int)) × (Unit)) (fun σ => [(3, v1)]) (fun σ => [row v1 1 (σ.1.map (eInt .i64))]) (fun σ => o4 = .go σ.1) (fun L7 hL6 => ?_) ?_
 ·
  refine run_seq ?_
  refine run_region' ?_
  refine oy rfl rfl (y_assign rfl) ?_
  refine ops_nil ?_
  refine goes_code ?_
  refine run_block ?_
  refine run_iter (step := law43_depths_L1 parents_0) (n := n) (s0 := (1, (List.replicate ((parents_0.length : Int)).toNat (0 : Int)))) h (G := Unit) () (fun σ γ => [(4, .int .i64 σ.1), (0, parents_0v), (3, v1)]) (fun σ γ => [ro parents_0v 1 (parents_0.map (eInt .i64)), row v1 1 (σ.2.map (eInt .i64))]) [0, 1] (qv3 rfl rfl rfl) (by decide) rfl ?_
  rintro ⟨k_8, x_9⟩ _ o10 h L13 hgo11 hstop12
  change Run _ _ _ (VF.of [(4, .int .i64 k_8), (0, parents_0v), (3, v1)]) [ro parents_0v 1 (parents_0.map (eInt .i64)), row v1 1 (x_9.map (eInt .i64))]
  refine run_seq ?_
  refine run_seq ?_
  refine run_region' ?_
  refine oy rfl rfl (y_move rfl) ?_
  refine oy rfl rfl (y_move rfl) ?_
  refine oy rfl rfl ((y_len 0 rfl Tryd.runUnderlying46 rfl rfl reads_ro).to (v_len (eInt .i64) _)) ?_
  refine oy rfl rfl (y_lss rfl rfl) ?_
  refine ops_nil ?_
  refine goes_code ?_
  refine run_cond (decide (k_8 < (parents_0.length : Int))) rfl (fun hc14 => ?_) (fun hc14 => ?_)
  ·replace h := cond_t h hc14
   refine run_skip ?_
   refine goes_code ?_
   refine run_seq ?_
   refine run_block ?_
   refine run_region' ?_
   refine oy rfl rfl (y_move rfl) ?_
   refine oy rfl rfl (y_move rfl) ?_
   refine oy rfl rfl (y_move rfl) ?_
   refine oy rfl rfl (y_move rfl) ?_
   refine oy rfl rfl (y_move rfl) ?_
   obtain ⟨x15, hzx15, hlx15, hxx15, h⟩ := idx_some h
   refine oy rfl rfl (y_indexAddrI (kd := .i64) (i := k_8) 0 Tryd.runUnderlying46 Tryd.sizeOf3 rfl rfl rfl reads_ro hzx15 (map_lt hlx15)) ?_
   refine oy rfl rfl (y_load_elem (i := k_8.toNat) 0 Tryd.isAgg3 rfl rfl reads_ro (map_get hxx15)) ?_
   obtain ⟨x16, hzx16, hlx16, hxx16, h⟩ := idx_some h
   refine oy rfl rfl (y_indexAddrI (kd := .i64) (i := x15) 1 Tryd.runUnderlying46 Tryd.sizeOf3 rfl rfl rfl reads_row hzx16 (map_lt hlx16)) ?_
   refine oy rfl rfl (y_load_elem (i := x15.toNat) 1 Tryd.isAgg3 rfl rfl reads_row (map_get hxx16)) ?_
   refine oy rfl rfl (y_add rfl rfl) ?_
   obtain ⟨x17, hzx17, hlx17, hxx17, h⟩ := idx_some h
   refine oy rfl rfl (y_indexAddrI (kd := .i64) (i := k_8) 1 Tryd.runUnderlying46 Tryd.sizeOf3 rfl rfl rfl reads_row hzx17 (map_lt hlx17)) ?_
   refine ot rfl rfl (t_store_row (i := k_8.toNat) (j := 0) (c := (eInt .i64) x17) 1 Tryd.sizeOf3 rfl rfl rfl rfl (map_get hxx17) (by decide) (by simp [Value.cells, Value.oneCell', boxP])) ?_
   rintro _ _ ⟨rfl, rfl⟩
   obtain hxx18 : ((x_9.set k_8.toNat (IntKind.i64.wrap (x16 + 1))) : List Int)[k_8.toNat]? = some (IntKind.i64.wrap (x16 + 1)) := set_at hlx17
   obtain hlx18 : k_8.toNat < ((x_9.set k_8.toNat (IntKind.i64.wrap (x16 + 1))) : List Int).length := set_lt hlx17
   obtain hzx18 : (0 : Int) ≤ k_8 := id hzx17
   refine ops_turn (retell 1 (g := row v1 1 ((x_9.set k_8.toNat (IntKind.i64.wrap (x16 + 1))).map (eInt .i64))) rfl (congrArg (row _ _) (map_set_at rfl))) ?_
   refine ops_nil ?_
   refine goes_blk ?_
   refine goes_code ?_
   refine run_weak [(4, .int .i64 k_8), (0, parents_0v), (3, v1)] [0, 1] [ro parents_0v 1 (parents_0.map (eInt .i64)), row v1 1 ((x_9.set k_8.toNat (IntKind.i64.wrap (x16 + 1))).map (eInt .i64))] (qv3 rfl rfl rfl) (by decide) rfl ?_
   refine run_region' ?_
   refine oy rfl rfl (y_move rfl) ?_
   refine oy rfl rfl (y_add rfl rfl) ?_
   refine oy rfl rfl (y_assign rfl) ?_
   refine ops_nil ?_
   obtain rfl := some_eq h
   exact goes_iter hgo11 ((IntKind.i64.wrap (k_8 + 1)), (x_9.set k_8.toNat (IntKind.i64.wrap (x16 + 1)))) () [0, 1] rfl (qv3 rfl rfl rfl) (by decide) rfl
  ·replace h := cond_f h hc14
   refine run_exit _ rfl ?_
   obtain rfl := some_eq h
   obtain rfl := hstop12 _ rfl
   exact goes_cut hL6 (x_9, ()) [1] (qv1 rfl) (by decide) rfl rfl
 rintro ⟨x_3, _⟩ hj
 obtain rfl : o4 = _ := hj
 replace h := after_go ho5
 clear ho5
 change Run _ _ _ (VF.of [(3, v1)]) [row v1 1 (x_3.map (eInt .i64))]
 refine run_seq ?_
 refine run_region' ?_
 refine oy rfl rfl (y_move rfl) ?_
 refine oy rfl rfl (y_assign rfl) ?_
 refine ops_nil ?_
 refine goes_code ?_
 refine run_ret ?_
 obtain rfl := some_eq h
 refine fin_slots [2] [v1] [0] [row v1 1 (x_3.map (eInt .i64))] Tryd.results18 rfl (by decide) rfl ?_
 exact ⟨_, rfl, rfl⟩

end Go.Proofs.YtbgpojdmdnkeaaaDoor
namespace Go.Proofs.YtbgpojdmdnkeaaaDoor
open Go.Abs
set_option linter.unusedSimpArgs false
set_option linter.unusedVariables false
/-- how many have arrived at an instant -/
def cnt (a : List Int) (t : Int) : Nat := (a.takeWhile fun x => decide (x ≤ t)).length
theorem cnt_le (a : List Int) (t : Int) : cnt a t ≤ a.length := List.Sublist.length_le (List.takeWhile_sublist _)
theorem cnt_cons (x : Int) (r : List Int) (t : Int) : cnt (x :: r) t = if x ≤ t then cnt r t + 1 else 0 := by
  unfold cnt
  rw [List.takeWhile_cons]
  by_cases h : x ≤ t <;> simp [h]
theorem cnt_lt : ∀ (a : List Int) (t : Int) (i : Nat), i < cnt a t → gi a i ≤ t
  | [], t, i, h => by simp [cnt] at h
  | x :: r, t, i, h => by
    rw [cnt_cons] at h
    split at h
    · rename_i hx
      cases i with
      | zero => exact hx
      | succ i => exact cnt_lt r t i (by omega)
    · omega
theorem cnt_at : ∀ (a : List Int) (t : Int), cnt a t < a.length → t < gi a (cnt a t)
  | [], t, h => by simp at h
  | x :: r, t, h => by
    rw [cnt_cons] at h ⊢
    split
    · rename_i hx
      rw [if_pos hx] at h
      exact cnt_at r t (by simpa using h)
    · rename_i hx
      show t < x
      omega
theorem seen_idx (a : List Int) (ha : a.length ≤ 1000000) (t : Int) (n : Nat) (hn : a.length < n) : slices_IndexFunc_int_int_44_v1 n a t = some (if cnt a t = a.length then -1 else ((cnt a t : Nat) : Int)) := by
  unfold slices_IndexFunc_int_int_44_v1
  have key := iter_fold (l := a) (step := slices_IndexFunc_int_int_44_v1_L1 a t) (fun i (_ : Nat) => (i : Int)) (fun (i : Nat) d => cond (decide (t < d)) (.stop (.stop (i : Int))) (.go (i + 1))) (fun _ => .go ()) (fun i j => i = j) (by
    rintro i j x rfl hx
    obtain ⟨hi, rfl⟩ := List.getElem?_eq_some_iff.1 hx
    unfold slices_IndexFunc_int_int_44_v1_L1 playlist_Seen_1_45
    have e : decide ((i : Int) < (a.length : Int)) = true := decide_eq_true (by omega)
    simp only [e, cond_true]
    rw [idx_get' hi]
    simp only [obind, Option.bind_some]
    cases decide (t < a[i])
    · simp only [cond_false, mapS_go]
      rw [w64 (by omega) (by omega)]
      exact ⟨rfl, fun s' hs => by cases hs; rfl⟩
    · exact ⟨rfl, fun s' hs => by cases hs⟩) (by
    intro s hs
    unfold slices_IndexFunc_int_int_44_v1_L1
    simp) n 0 0 rfl (Nat.zero_le _) (by omega)
  have e : iter (slices_IndexFunc_int_int_44_v1_L1 a t) n 0 = _ := key
  rw [e, List.drop_zero]
  have gen : ∀ (l : List Int) (k : Nat), foldL (fun (i : Nat) d => cond (decide (t < d)) (Lp.stop (.stop (i : Int))) (.go (i + 1))) (fun _ => (.go () : Lp Unit Int)) k l = if cnt l t = l.length then .go () else .stop ((k + cnt l t : Nat) : Int) := by
    intro l
    induction l with
    | nil => intro k; rfl
    | cons x r ih =>
      intro k
      unfold foldL
      rw [cnt_cons]
      by_cases h : x ≤ t
      · rw [if_pos h, decide_eq_false (by omega), cond_false]
        simp only
        rw [ih]
        by_cases h' : cnt r t = r.length
        · rw [if_pos h', if_pos (by simp [h'])]
        · rw [if_neg h', if_neg (by simp; omega)]
          congr 2
          omega
      · rw [if_neg h, decide_eq_true (by omega), cond_true, if_neg (by simp)]
        rfl
  rw [gen a 0]
  by_cases h : cnt a t = a.length
  · simp only [h, if_true, bindJ_go]
  · simp only [h, if_false, bindJ_stop, Nat.zero_add]
theorem cut_id (p : S_api_Playlist) (w : Int) (hw0 : 0 ≤ w) (hw : w ≤ 1000000) (hl : p.L.length ≤ 1000000) (hf : -4611686018427387904 ≤ p.First ∧ p.First ≤ 4611686018427387904) :
    playlist_cut p w = some ⟨p.First + max 0 ((p.L.length : Int) - w), p.L.drop (max 0 ((p.L.length : Int) - w)).toNat, p.Done⟩ := by
  unfold playlist_cut
  rw [w64 (x := (p.L.length : Int) - w) (by omega) (by omega), need_pos (by omega), w64 (by omega) (by omega)]
theorem clone_eq (l : List S_api_Segment) (h : l.length ≤ 4294967296) : slices_Clone_weirgate_api_Segment_weirgate_api_Segment_28 l = some l := by
  unfold slices_Clone_weirgate_api_Segment_weirgate_api_Segment_28
  rw [need_pos (by simpa using h)]; rfl
/-- what is seen, before it is cut -/
def seenP (l : List S_api_Segment) (a : List Int) (t : Int) : S_api_Playlist := ⟨((l[0]?).map (·.Num)).getD 0, l.take (cnt a t), false⟩
theorem seen_eq {l : List S_api_Segment} (hs : Strm l) (hl : l.length ≤ 1000) (a : List Int) (ha : a.length = l.length) (t w : Int) (hw0 : 0 ≤ w) (hw : w ≤ 1000000) (n : Nat) (hn : 1000 < n) : playlist_Seen n l a t w = playlist_cut (seenP l a t) w := by
  unfold playlist_Seen
  rw [seen_idx a (by omega) t n (by omega)]
  have hc := cnt_le a t
  simp only [obind, Option.bind_some]
  have e1 : bindJ (S := Int) (R := S_api_Playlist) (cond (decide ((if cnt a t = a.length then -1 else ((cnt a t : Nat) : Int)) < 0)) (some (.go (l.length : Int))) (some (.go (if cnt a t = a.length then -1 else ((cnt a t : Nat) : Int))))) = fun k => k ((cnt a t : Nat) : Int) := by
    funext k
    by_cases h : cnt a t = a.length
    · simp only [h, if_true, ha]; rfl
    · simp only [h, if_false]
      rw [decide_eq_false (by omega)]; rfl
  rw [e1]
  simp only
  have hb : -4611686018427387904 ≤ (seenP l a t).First ∧ (seenP l a t).First ≤ 4611686018427387904 := by
    unfold seenP
    by_cases h0 : 0 < l.length
    · have := hs.1 0 h0
      unfold okSeg at this
      simp only [List.getElem?_eq_getElem h0, Option.map_some, Option.getD_some]; omega
    · rw [List.getElem?_eq_none (by omega)]; simp
  have hcut := cut_id (seenP l a t) w hw0 hw (by unfold seenP; simp; omega) hb
  by_cases h0 : 0 < l.length
  · have e : decide ((0 : Int) < (l.length : Int)) = true := decide_eq_true (by omega)
    simp only [e, cond_true]
    rw [show (0 : Int) = ((0 : Nat) : Int) from rfl, idx_get' h0, need_pos (by omega), clone_eq _ (by simp; omega)]
    simp only [Option.bind_some, bindJ_go, Int.toNat_natCast]
    have : (⟨l[0].Num, l.take (cnt a t), false⟩ : S_api_Playlist) = seenP l a t := by unfold seenP; rw [List.getElem?_eq_getElem h0]; rfl
    rw [this, hcut]; rfl
  · have e : decide ((0 : Int) < (l.length : Int)) = false := decide_eq_false (by omega)
    simp only [e, cond_false, bindJ_go]
    have : (⟨0, [], false⟩ : S_api_Playlist) = seenP l a t := by
      obtain rfl : l = [] := List.length_eq_zero_iff.1 (by omega)
      unfold seenP
      simp
    rw [this, hcut]; rfl
theorem seen_short {l : List S_api_Segment} (hs : Strm l) (hl : l.length ≤ 60) (a : List Int) (ha : a.length = l.length) (t : Int) (n : Nat) (hn : 1000 < n) : playlist_Seen n l a t 100 = some (seenP l a t) := by
  rw [seen_eq hs (by omega) a ha t 100 (by omega) (by omega) n hn]
  have h0 : (seenP l a t).L.length ≤ 60 := by unfold seenP; simp; omega
  rw [cut_id _ _ (by omega) (by omega) (by omega) (by
    unfold seenP
    by_cases h0 : 0 < l.length
    · have := hs.1 0 h0
      unfold okSeg at this
      simp only [List.getElem?_eq_getElem h0, Option.map_some, Option.getD_some]; omega
    · rw [List.getElem?_eq_none (by omega)]; simp)]
  rw [show max 0 (((seenP l a t).L.length : Int) - 100) = 0 by omega]
  simp
/-! the depths of the places -/
def Dep (parents : List Int) (d : List Int) (K : Nat) : Prop := gi d 0 = 0 ∧ ∀ k, 1 ≤ k → k < K → gi d k = gi d (gi parents k).toNat + 1
theorem dep_bounds {parents d : List Int} {K : Nat} (hT : ∀ k, 1 ≤ k → k < K → 0 ≤ gi parents k ∧ gi parents k < k) (h : Dep parents d K) : ∀ k, k < K → 0 ≤ gi d k ∧ gi d k ≤ k := by
  intro k
  induction k using Nat.strongRecOn with
  | _ k ih =>
    intro hk
    by_cases h0 : k = 0
    · subst h0; rw [h.1]; omega
    · have := hT k (by omega) hk
      have h1 := h.2 k (by omega) hk
      have := ih (gi parents k).toNat (by omega) (by omega)
      omega
theorem depths_eq (parents : List Int) (hp : 1 ≤ parents.length) (hl : parents.length ≤ 100) (hT : ∀ k, 1 ≤ k → k < parents.length → 0 ≤ gi parents k ∧ gi parents k < k) (n : Nat) (hn : 100 < n) :
    ∃ d, law43_depths n parents = some d ∧ d.length = parents.length ∧ Dep parents d parents.length := by
  unfold law43_depths
  rw [need_pos (by omega)]
  obtain ⟨r, e, d, h1, h2, h3⟩ := iter_inv (step := law43_depths_L1 parents) (fun s => ∃ (k : Nat) (x : List Int), s = ((k : Int), x) ∧ 1 ≤ k ∧ k ≤ parents.length ∧ x.length = parents.length ∧ Dep parents x k) (fun s => parents.length - s.1.toNat) (fun r => ∃ d, r = .go d ∧ d.length = parents.length ∧ Dep parents d parents.length) (by
    rintro s ⟨k, x, rfl, hk1, hk, hx, hD⟩
    unfold law43_depths_L1
    by_cases hlt : k < parents.length
    · have e : decide ((k : Int) < (parents.length : Int)) = true := decide_eq_true (by omega)
      simp only [e, cond_true]
      have hp := hT k hk1 hlt
      have hb := dep_bounds (fun k a b => hT k a (by omega)) hD (gi parents k).toNat (by omega)
      rw [idx_get (gi_at hlt)]
      have e2 : ∀ kk : Int → Option (Lp (Int × List Int) (Lp (List Int) (List Int))), idx x (gi parents k) kk = kk (gi x (gi parents k).toNat) := fun kk => by
        have := idx_get (gi_at (l := x) (i := (gi parents k).toNat) (by omega)) kk
        rwa [show (((gi parents k).toNat : Nat) : Int) = gi parents k by omega] at this
      rw [e2, idx_get (gi_at (l := x) (i := k) (by omega))]
      left
      refine ⟨(((k + 1 : Nat) : Int), x.set k (gi x (gi parents k).toNat + 1)), ?_, ⟨k + 1, _, rfl, by omega, by omega, by simp [hx], ?_, fun j a b => ?_⟩, by simp; omega⟩
      · rw [w64 (x := (k : Int) + 1) (by omega) (by omega), w64 (by omega) (by omega)]; rfl
      · rw [gi_set_ne (by omega)]; exact hD.1
      · have := hT j a (by omega)
        rw [gi_set_ne (i := k) (j := (gi parents j).toNat) (by omega)]
        by_cases ej : j = k
        · subst ej; rw [gi_set_eq (by omega)]
        · rw [gi_set_ne (by omega)]; exact hD.2 j a (by omega)
    · have e : decide ((k : Int) < (parents.length : Int)) = false := decide_eq_false (by omega)
      obtain rfl : k = parents.length := by omega
      right
      exact ⟨_, by simp only [e, cond_false], x, rfl, hx, hD⟩) n (1, List.replicate ((parents.length : Int)).toNat (0 : Int)) ⟨1, _, rfl, by omega, hp, by simp, by simp [gi]; rw [List.getElem?_replicate]; split <;> rfl, fun k a b => by omega⟩ (by simp; omega)
  refine ⟨d, ?_, h2, h3⟩
  rw [e, h1]; rfl
/-- the greatest delay bounds how far a place is behind the source -/
theorem spr_near {l : List S_api_Segment} (hs : Strm l) {parents d : List Int} {delays out : List (List Int)} {K : Nat} {hop : Int} (hT : ∀ k, 1 ≤ k → k < K → TreeAt l.length parents delays k) (hhop : ∀ k, 1 ≤ k → k < K → ∀ x ∈ gl delays k, x ≤ hop)
    (h0 : 0 ≤ hop) (h : SprTo l parents delays out K) (hD : Dep parents d K) : ∀ k, k < K → ∀ i, i < l.length → sEnd l i ≤ gi (gl out k) i ∧ gi (gl out k) i ≤ sEnd l i + gi d k * hop := by
  have mono : ∀ i, i + 1 < l.length → sEnd l i ≤ sEnd l (i + 1) := by
    intro i hi
    rw [sEnd_at (show i < l.length by omega), sEnd_at hi]
    have h1 := (hs.2 i hi).2
    have h2 := hs.1 (i + 1) hi
    unfold okSeg at h2
    omega
  intro k
  induction k using Nat.strongRecOn with
  | _ k ih =>
    intro hk
    by_cases hz : k = 0
    · subst hz
      intro i
      rw [hD.1, Int.zero_mul]
      induction i with
      | zero => intro hi; rw [h.1.2.1 hi]; omega
      | succ i ihi => intro hi; have := ihi (by omega); have h2 := h.1.2.2 i hi; have := mono i hi; omega
    · obtain ⟨t1, t2, t3, t4⟩ := hT k (by omega) hk
      have hp := h.2 k (by omega) hk
      have hd := hD.2 k (by omega) hk
      have hmul : gi d k * hop = gi d (gi parents k).toNat * hop + hop := by rw [hd, Int.add_mul, Int.one_mul]
      have step : ∀ i, i < l.length → sEnd l i ≤ gi (gl out (gi parents k).toNat) i + gi (gl delays k) i ∧ gi (gl out (gi parents k).toNat) i + gi (gl delays k) i ≤ sEnd l i + gi d k * hop := by
        intro i hi
        have h1 := ih (gi parents k).toNat (by omega) (by omega) i hi
        have hm : gi (gl delays k) i ∈ gl delays k := by rw [gi_get (by omega)]; exact List.getElem_mem _
        have h2 := t4 _ hm
        have h3 := hhop k (by omega) hk _ hm
        omega
      intro i
      induction i with
      | zero => intro hi; rw [hp.2.1 hi]; exact step 0 hi
      | succ i ihi => intro hi; have a := ihi (by omega); have b : gi (gl out k) (i + 1) = max (gi (gl out (gi parents k).toNat) (i + 1) + gi (gl delays k) (i + 1)) (gi (gl out k) i) := hp.2.2 i hi; have c := mono i hi; have e := step (i + 1) hi; omega
end Go.Proofs.YtbgpojdmdnkeaaaDoor
namespace Go.Proofs.YtbgpojdmdnkeaaaDoor
open Go.Abs
set_option linter.unusedVariables false
set_option linter.unusedSimpArgs false
set_option maxRecDepth 20000
set_option maxHeartbeats 4000000

def law43_PlaylistLagIsBounded_L2 (x36 : (List Int)) : (Int × Int) → Option (Lp (Int × Int) (Lp (Int) (Lp (Int × Int) (Lp (Int) (Bool))))) :=
 fun (hop_38, s_39) =>
  cond (decide (s_39 < (x36.length : Int)))
   (idx x36 s_39 fun x45 =>
   some (.go ((max hop_38 x45), (IntKind.i64.wrap (s_39 + 1)))))
   (some (.stop (.go hop_38)))
def law43_PlaylistLagIsBounded_L1 (n : Nat) (parents_1 : (List Int)) (delays_2 : (List (List Int))) : (Int × Int) → Option (Lp (Int × Int) (Lp (Int) (Bool))) :=
 fun (hop_24, k_25) =>
  cond (decide (k_25 < (parents_1.length : Int)))
   (bindJ (S := Int)
    (idx delays_2 k_25 fun x36 =>
    iter (law43_PlaylistLagIsBounded_L2 x36) n (hop_24, 0))
   (fun hop_31 =>
    some (.go (hop_31, (IntKind.i64.wrap (k_25 + 1))))))
   (some (.stop (.go hop_24)))
end Go.Proofs.YtbgpojdmdnkeaaaDoor
namespace Go.Proofs.YtbgpojdmdnkeaaaDoor
open Go.Abs
set_option linter.unusedSimpArgs false
set_option linter.unusedVariables false
theorem small_eq (l : List S_api_Segment) (parents : List Int) (delays : List (List Int)) (hd : delays.length ≤ 9223372036854775807) (n : Nat) (hn : delays.length < n) :
    law43_small n l parents delays = some (decide ((∀ d ∈ delays, d.length ≤ 60) ∧ l.length ≤ 60 ∧ parents.length ≤ 12 ∧ delays.length ≤ 12)) := by
  unfold law43_small
  obtain ⟨r, e, h⟩ := iter_inv (step := law43_small_L1 delays) (fun s => ∃ i : Nat, s = (i : Int) ∧ i ≤ delays.length ∧ ∀ j (h : j < delays.length), j < i → delays[j].length ≤ 60) (fun s => delays.length - s.toNat)
    (fun r => (r = .go () ∧ ∀ d ∈ delays, d.length ≤ 60) ∨ (r = .stop false ∧ ¬ ∀ d ∈ delays, d.length ≤ 60)) (by
    rintro s ⟨i, rfl, hi, hj⟩
    unfold law43_small_L1
    by_cases hlt : i < delays.length
    · have e : decide ((i : Int) < (delays.length : Int)) = true := decide_eq_true (by omega)
      simp only [e, cond_true]
      rw [idx_get' hlt]
      by_cases h : 60 < delays[i].length
      · rw [decide_eq_true (by omega), cond_true]
        exact .inr ⟨_, rfl, .inr ⟨rfl, fun q => by have := q _ (List.getElem_mem hlt); omega⟩⟩
      · rw [decide_eq_false (by omega), cond_false, w64 (by omega) (by omega)]
        refine .inl ⟨((i + 1 : Nat) : Int), rfl, ⟨i + 1, rfl, by omega, fun j a b => ?_⟩, by simp; omega⟩
        by_cases ej : j = i
        · subst ej; omega
        · exact hj j a (by omega)
    · have e : decide ((i : Int) < (delays.length : Int)) = false := decide_eq_false (by omega)
      refine .inr ⟨.go (), by simp only [e, cond_false], .inl ⟨rfl, fun d hd => ?_⟩⟩
      obtain ⟨j, hj', rfl⟩ := List.getElem_of_mem hd
      exact hj j hj' (by omega)) n 0 ⟨0, rfl, by omega, fun j a b => by omega⟩ (by simpa using hn)
  rw [e]
  rcases h with ⟨rfl, h⟩ | ⟨rfl, h⟩
  · simp only [bindJ_go]
    congr 1
    rw [Bool.eq_iff_iff]
    simp only [Bool.and_eq_true, decide_eq_true_eq]
    constructor
    · rintro ⟨⟨a, b⟩, c⟩; exact ⟨h, by omega, by omega, by omega⟩
    · rintro ⟨_, a, b, c⟩; omega
  · simp only [bindJ_stop]
    rw [decide_eq_false (fun q => h q.1)]
theorem max_fold {R : Type} (step : Int × Int → Option (Lp (Int × Int) (Lp Int R))) (l : List Int) (hl : l.length ≤ 1000000) (h1 : ∀ (m : Int) (i : Nat) (h : i < l.length), step (m, (i : Int)) = some (.go (max m l[i], ((i + 1 : Nat) : Int)))) (h2 : ∀ m, step (m, (l.length : Int)) = some (.stop (.go m))) (m : Int) (n : Nat) (hn : l.length < n) :
    ∃ r, iter step n (m, 0) = some (.go r) ∧ m ≤ r ∧ (∀ x ∈ l, x ≤ r) ∧ (r = m ∨ r ∈ l) := by
  obtain ⟨r, e, q, rfl, a, b, c⟩ := iter_inv (step := step) (fun s => ∃ (i : Nat) (r : Int), s = (r, (i : Int)) ∧ i ≤ l.length ∧ m ≤ r ∧ (∀ j (h : j < l.length), j < i → l[j] ≤ r) ∧ (r = m ∨ r ∈ l)) (fun s => l.length - s.2.toNat) (fun r => ∃ q, r = .go q ∧ m ≤ q ∧ (∀ x ∈ l, x ≤ q) ∧ (q = m ∨ q ∈ l)) (by
    rintro s ⟨i, r, rfl, hi, hm, hj, hr⟩
    by_cases hlt : i < l.length
    · refine .inl ⟨_, h1 r i hlt, ⟨i + 1, _, rfl, by omega, by omega, fun j a b => ?_, ?_⟩, by simp; omega⟩
      · by_cases ej : j = i
        · subst ej; omega
        · have := hj j a (by omega); omega
      · by_cases h : r ≤ l[i]
        · rw [Int.max_eq_right h]; exact .inr (List.getElem_mem _)
        · rw [Int.max_eq_left (by omega)]; exact hr
    · obtain rfl : i = l.length := by omega
      exact .inr ⟨_, h2 r, r, rfl, hm, fun x hx => by obtain ⟨j, a, rfl⟩ := List.getElem_of_mem hx; exact hj j a a, hr⟩) n (m, 0) ⟨0, m, rfl, by omega, by omega, fun j a b => by omega, .inl rfl⟩ (by simpa using hn)
  exact ⟨q, e, a, b, c⟩
theorem hop_loop (parents : List Int) (delays : List (List Int)) (hp : parents.length ≤ 100) (hd : delays.length = parents.length) (hl : ∀ d ∈ delays, d.length ≤ 60) (h1 : 1 ≤ parents.length) (n : Nat) (hn : 200 < n) :
    ∃ r, iter (law43_PlaylistLagIsBounded_L1 n parents delays) n (0, 1) = some (.go r) ∧ 0 ≤ r ∧ ∀ k, 1 ≤ k → k < parents.length → ∀ x ∈ gl delays k, x ≤ r := by
  obtain ⟨r, e, q, rfl, a, b⟩ := iter_inv (step := law43_PlaylistLagIsBounded_L1 n parents delays) (fun s => ∃ (i : Nat) (r : Int), s = (r, (i : Int)) ∧ 1 ≤ i ∧ i ≤ parents.length ∧ 0 ≤ r ∧ ∀ k, 1 ≤ k → k < i → ∀ x ∈ gl delays k, x ≤ r) (fun s => parents.length - s.2.toNat) (fun r => ∃ q, r = .go q ∧ 0 ≤ q ∧ ∀ k, 1 ≤ k → k < parents.length → ∀ x ∈ gl delays k, x ≤ q) (by
    rintro s ⟨i, r, rfl, hi1, hi, hr, hj⟩
    unfold law43_PlaylistLagIsBounded_L1
    by_cases hlt : i < parents.length
    · have e : decide ((i : Int) < (parents.length : Int)) = true := decide_eq_true (by omega)
      simp only [e, cond_true]
      have hid : i < delays.length := by omega
      have hli := hl (gl delays i) (by unfold gl; rw [List.getElem?_eq_getElem hid]; exact List.getElem_mem _)
      rw [idx_get (gl_at hid)]
      obtain ⟨q, e1, a, b, _⟩ := max_fold (law43_PlaylistLagIsBounded_L2 (gl delays i)) (gl delays i) (by omega) (fun m j h => by
        unfold law43_PlaylistLagIsBounded_L2
        simp only
        rw [decide_eq_true (by omega), cond_true, idx_get' h, w64 (by omega) (by omega)]; rfl) (fun m => by unfold law43_PlaylistLagIsBounded_L2; simp) r n (by omega)
      rw [e1, bindJ_go, w64 (by omega) (by omega)]
      refine .inl ⟨_, rfl, ⟨i + 1, q, rfl, by omega, by omega, by omega, fun k h1 h2 x hx => ?_⟩, by simp; omega⟩
      by_cases ek : k = i
      · subst ek; exact b x hx
      · have := hj k h1 (by omega) x hx; omega
    · have e : decide ((i : Int) < (parents.length : Int)) = false := decide_eq_false (by omega)
      obtain rfl : i = parents.length := by omega
      exact .inr ⟨_, by simp only [e, cond_false], r, rfl, hr, hj⟩) n (0, 1) ⟨1, 0, rfl, by omega, h1, by omega, fun k a b => by omega⟩ (by simp; omega)
  exact ⟨q, e, a, b⟩
theorem sEnd_next {l : List S_api_Segment} (hs : Strm l) {m : Nat} (hm : m + 1 < l.length) : sEnd l (m + 1) = sEnd l m + l[m + 1].Len := by
  rw [sEnd_at hm, sEnd_at (show m < l.length by omega), (hs.2 m hm).2]
end Go.Proofs.YtbgpojdmdnkeaaaDoor
namespace Go.Proofs.YtbgpojdmdnkeaaaDoor
open Go.Abs
set_option linter.unusedSimpArgs false
set_option linter.unusedVariables false
theorem dig_ext {a b : S_api_Digest} (h : a.toL = b.toL) : a = b := by
  cases a; cases b
  simp only [S_api_Digest.toL, List.cons.injEq, and_true] at h
  obtain ⟨e0, e1, e2, e3, e4, e5, e6, e7, e8, e9, e10, e11, e12, e13, e14, e15⟩ := h
  subst_vars
  rfl
theorem seg_same (a b : S_api_Segment) : (decide (a.Num = b.Num) && (decide (a.Begin = b.Begin) && (decide (a.Len = b.Len) && (decide (S_api_Digest.toL a.Body = S_api_Digest.toL b.Body) && (decide (a.Size = b.Size)))))) = true ↔ a = b := by
  simp only [Bool.and_eq_true, decide_eq_true_eq]
  constructor
  · rintro ⟨h1, h2, h3, h4, h5⟩
    cases a; cases b
    simp only at h1 h2 h3 h4 h5
    have := dig_ext h4
    subst_vars
    rfl
  · rintro rfl; simp
theorem find_loop (l : List S_api_Segment) (hl : l.length ≤ 1000000) (k : Int) (n : Nat) (hn : l.length < n) :
    ∃ r, slices_IndexFunc_weirgate_api_Segment_weirgate_api_Segment_56 n l k = some r ∧ ((r = -1 ∧ ∀ s ∈ l, s.Num ≠ k) ∨ ∃ (i : Nat) (h : i < l.length), r = i ∧ l[i].Num = k ∧ ∀ j (hj : j < l.length), j < i → l[j].Num ≠ k) := by
  unfold slices_IndexFunc_weirgate_api_Segment_weirgate_api_Segment_56
  obtain ⟨r, e, h⟩ := iter_inv (step := slices_IndexFunc_weirgate_api_Segment_weirgate_api_Segment_56_L1 l k) (fun s => ∃ i : Nat, s = (i : Int) ∧ i ≤ l.length ∧ ∀ j (hj : j < l.length), j < i → l[j].Num ≠ k) (fun s => l.length - s.toNat)
    (fun r => (r = .go () ∧ ∀ s ∈ l, s.Num ≠ k) ∨ ∃ (i : Nat) (h : i < l.length), r = .stop (i : Int) ∧ l[i].Num = k ∧ ∀ j (hj : j < l.length), j < i → l[j].Num ≠ k) (by
    rintro s ⟨i, rfl, hi, hj⟩
    unfold slices_IndexFunc_weirgate_api_Segment_weirgate_api_Segment_56_L1 playlist_Find_1_47
    by_cases hlt : i < l.length
    · rw [decide_eq_true (by omega), cond_true, idx_get' hlt]
      simp only [obind, Option.bind_some]
      by_cases hk : l[i].Num = k
      · rw [decide_eq_true hk]
        exact .inr ⟨_, rfl, .inr ⟨i, hlt, rfl, hk, hj⟩⟩
      · rw [decide_eq_false hk, cond_false, w64 (by omega) (by omega)]
        refine .inl ⟨((i + 1 : Nat) : Int), rfl, ⟨i + 1, rfl, by omega, fun j a b => ?_⟩, by simp; omega⟩
        by_cases ej : j = i
        · subst ej; exact hk
        · exact hj j a (by omega)
    · rw [decide_eq_false (by omega), cond_false]
      refine .inr ⟨_, rfl, .inl ⟨rfl, fun s hs => ?_⟩⟩
      obtain ⟨j, a, rfl⟩ := List.getElem_of_mem hs
      exact hj j a (by omega)) n 0 ⟨0, rfl, by omega, fun j a b => by omega⟩ (by simpa using hn)
  rw [e]
  rcases h with ⟨rfl, h⟩ | ⟨i, h1, rfl, h2, h3⟩
  · exact ⟨-1, rfl, .inl ⟨rfl, h⟩⟩
  · exact ⟨_, rfl, .inr ⟨i, h1, rfl, h2, h3⟩⟩
def zeroSeg : S_api_Segment := ⟨0, 0, 0, ⟨0, 0, 0, 0, 0, 0, 0, 0, 0, 0, 0, 0, 0, 0, 0, 0⟩, 0⟩
theorem find_eq (p : S_api_Playlist) (hl : p.L.length ≤ 1000000) (k : Int) (n : Nat) (hn : p.L.length < n) :
    (playlist_Find n p k = some (zeroSeg, 5) ∧ ∀ s ∈ p.L, s.Num ≠ k) ∨ ∃ (i : Nat) (h : i < p.L.length), playlist_Find n p k = some (p.L[i], 0) ∧ p.L[i].Num = k ∧ ∀ j (hj : j < p.L.length), j < i → p.L[j].Num ≠ k := by
  unfold playlist_Find playlist_one
  obtain ⟨r, e, h⟩ := find_loop p.L hl k n hn
  rw [e]
  rcases h with ⟨rfl, h⟩ | ⟨i, h1, rfl, h2, h3⟩
  · exact .inl ⟨rfl, h⟩
  · refine .inr ⟨i, h1, ?_, h2, h3⟩
    simp only [obind, Option.bind_some]
    rw [decide_eq_true (by omega), cond_true, idx_get' h1]
    rfl
def nextP (p : S_api_Playlist) : Int := p.First + p.L.length
def edgeP (p : S_api_Playlist) : Int := sEnd p.L (p.L.length - 1)
def beginP (p : S_api_Playlist) : Int := ((p.L[0]?).map (·.Begin)).getD 0
/-- what one playlist has, the other has, too, or does not speak of it -/
def Agree (e l : S_api_Playlist) : Prop := ∀ i (hi : i < e.L.length) j (hj : j < l.L.length), e.L[i].Num = l.L[j].Num → l.L[j] = e.L[i]
theorem merge_loop (e l : S_api_Playlist) (hl : VP l) (he : e.L.length ≤ 1000) (n : Nat) (hn : 1000 < n) :
    (iter (playlist_Merge_L1 n e.L l.First l.L l.Done) n 0 = some (.go ()) ∧ Agree e l) ∨ (iter (playlist_Merge_L1 n e.L l.First l.L l.Done) n 0 = some (.stop (⟨0, [], false⟩, 430)) ∧ ¬ Agree e l) := by
  have hL := hl.2.2.1
  have inj : ∀ i (hi : i < l.L.length) j (hj : j < l.L.length), l.L[i].Num = l.L[j].Num → i = j := by
    have num : ∀ (k : Nat) (hk : k < l.L.length), l.L[k].Num = l.First + k := by
      intro k
      induction k with
      | zero => intro hk; simpa using hl.2.2.2.1 hk
      | succ k ih => intro hk; have := ih (by omega); have := (hl.2.2.2.2.2 k hk).1; omega
    intro i hi j hj h
    rw [num i hi, num j hj] at h
    omega
  obtain ⟨r, e1, h⟩ := iter_inv (step := playlist_Merge_L1 n e.L l.First l.L l.Done) (fun s => ∃ i : Nat, s = (i : Int) ∧ i ≤ e.L.length ∧ ∀ k (hk : k < e.L.length), k < i → ∀ j (hj : j < l.L.length), e.L[k].Num = l.L[j].Num → l.L[j] = e.L[k]) (fun s => e.L.length - s.toNat)
    (fun r => (r = .go () ∧ Agree e l) ∨ (r = .stop (⟨0, [], false⟩, 430) ∧ ¬ Agree e l)) (by
    rintro s ⟨i, rfl, hi, hj⟩
    unfold playlist_Merge_L1
    by_cases hlt : i < e.L.length
    · rw [decide_eq_true (by omega), cond_true, idx_get' hlt]
      have next : (∀ j (hj : j < l.L.length), e.L[i].Num = l.L[j].Num → l.L[j] = e.L[i]) → ∀ k (hk : k < e.L.length), k < i + 1 → ∀ j (hj : j < l.L.length), e.L[k].Num = l.L[j].Num → l.L[j] = e.L[k] := by
        intro hh k hk hki
        by_cases ek : k = i
        · subst ek; exact hh
        · exact hj k hk (by omega)
      rcases find_eq ⟨l.First, l.L, l.Done⟩ (by show l.L.length ≤ _; omega) e.L[i].Num n (by show l.L.length < _; omega) with ⟨f1, f2⟩ | ⟨j, f1, f2, f3, f4⟩
      · rw [f1]
        simp only [obind, Option.bind_some]
        rw [decide_eq_false (show ¬ (5 : Int) = 0 by decide), Bool.false_and, cond_false, w64 (by omega) (by omega)]
        exact .inl ⟨_, rfl, ⟨i + 1, rfl, by omega, next fun j hj h => absurd h.symm (f2 _ (List.getElem_mem hj))⟩, by simp; omega⟩
      · rw [f2]
        simp only [obind, Option.bind_some, decide_true, Bool.true_and]
        have f1' : j < l.L.length := f1
        by_cases hs : l.L[j] = e.L[i]
        · rw [(seg_same _ _).2 hs, Bool.not_true, cond_false, w64 (by omega) (by omega)]
          refine .inl ⟨_, rfl, ⟨i + 1, rfl, by omega, next fun q hq h => ?_⟩, by simp; omega⟩
          have : j = q := inj j f1' q hq (f3.trans h)
          subst this
          exact hs
        · rw [Bool.eq_false_iff.2 fun h => hs ((seg_same _ _).1 h), Bool.not_false, cond_true]
          exact .inr ⟨_, rfl, .inr ⟨rfl, fun hA => hs (hA i hlt j f1' f3.symm)⟩⟩
    · rw [decide_eq_false (by omega), cond_false]
      exact .inr ⟨_, rfl, .inl ⟨rfl, fun k hk => hj k hk (by omega)⟩⟩) n 0 ⟨0, rfl, by omega, fun k a b => by omega⟩ (by simp; omega)
  rcases h with ⟨rfl, h⟩ | ⟨rfl, h⟩
  · exact .inl ⟨e1, h⟩
  · exact .inr ⟨e1, h⟩
def Meet (e l : S_api_Playlist) : Prop := 0 < e.L.length ∧ 0 < l.L.length ∧ l.First ≤ nextP e
def cutP (p : S_api_Playlist) (w : Int) : S_api_Playlist := ⟨p.First + max 0 ((p.L.length : Int) - w), p.L.drop (max 0 ((p.L.length : Int) - w)).toNat, p.Done⟩
def joinEL (e l : S_api_Playlist) (done : Bool) : S_api_Playlist := ⟨l.First - max 0 (l.First - e.First), e.L.take (max 0 (l.First - e.First)).toNat ++ l.L, done⟩
open Classical in
/-- an earlier and a later playlist together -/
noncomputable def mergeEL (e l : S_api_Playlist) (done : Bool) (w : Int) : S_api_Playlist × Int :=
  if e.Done = true ∧ nextP e < nextP l then (⟨0, [], false⟩, 430)
  else if ¬ Agree e l then (⟨0, [], false⟩, 430)
  else if Meet e l then (if nextP e = l.First ∧ edgeP e ≠ beginP l then (⟨0, [], false⟩, 430) else (cutP (joinEL e l done) w, 0))
  else (cutP ⟨l.First, l.L, done⟩ w, 0)
open Classical in
noncomputable def mergeP (a b : S_api_Playlist) (w : Int) : S_api_Playlist × Int :=
  if 1 ≤ w ∧ w ≤ 100 then (if nextP a < nextP b then mergeEL a b (a.Done || b.Done) w else mergeEL b a (a.Done || b.Done) w) else (⟨0, [], false⟩, 1)
theorem next_at {p : S_api_Playlist} (h : VP p) : playlist_Next ⟨p.First, p.L, p.Done⟩ = some (nextP p) := next_eq h
theorem edge_eq {p : S_api_Playlist} (h : VP p) (h0 : 0 < p.L.length) : playlist_Edge ⟨p.First, p.L, p.Done⟩ = some (edgeP p) := by
  have hL := h.2.2.1
  unfold playlist_Edge edgeP
  simp only
  rw [decide_eq_false (by omega), cond_false, w64 (by omega) (by omega), show (p.L.length : Int) - 1 = ((p.L.length - 1 : Nat) : Int) by omega, idx_get' (by omega), end_get h.2.2.2.2 (by omega)]
  rfl
open Classical in
theorem mergeEL_eq (e l : S_api_Playlist) (he : VP e) (hl : VP l) (hle : nextP e ≤ nextP l) (done : Bool) (w : Int) (hw0 : 1 ≤ w) (hw1 : w ≤ 100) (n : Nat) (hn : 1000 < n) (R : Option (S_api_Playlist × Int))
    (hR : R = bindJ (S := Bool)
    (cond e.Done
     (obind (playlist_Next (S_api_Playlist.mk e.First e.L e.Done)) fun r43 =>
     obind (playlist_Next (S_api_Playlist.mk l.First l.L l.Done)) fun r45 =>
     some (.go (decide (r43 < r45))))
     (some (.go false)))
   (fun b37 =>
    cond b37
     (some ((S_api_Playlist.mk 0 ([] : List S_api_Segment) false), 430))
     (bindJ (S := Unit)
      (iter (playlist_Merge_L1 n e.L l.First l.L l.Done) n 0)
     (fun _ =>
      obind (slices_Clone_weirgate_api_Segment_weirgate_api_Segment_28 l.L) fun r67 =>
      bindJ (S := Int × (List S_api_Segment))
       (bindJ (S := Bool)
        (cond (decide (0 < (e.L.length : Int)) && decide (0 < (l.L.length : Int)))
         (obind (playlist_Next (S_api_Playlist.mk e.First e.L e.Done)) fun r99 =>
         some (.go (decide (l.First ≤ r99))))
         (some (.go false)))
       (fun b93 =>
        cond b93
         (obind (playlist_Next (S_api_Playlist.mk e.First e.L e.Done)) fun r102 =>
         bindJ (S := Bool)
          (cond (decide (r102 = l.First))
           (idx l.L 0 fun x110 =>
           obind (playlist_Edge (S_api_Playlist.mk e.First e.L e.Done)) fun r111 =>
           some (.go (decide (r111 ≠ x110.Begin))))
           (some (.go false)))
         (fun b104 =>
          cond b104
           (some (.stop ((S_api_Playlist.mk 0 ([] : List S_api_Segment) false), 430)))
           (need (0 ≤ (0 : Int) ∧ 0 ≤ (max 0 (IntKind.i64.wrap (l.First - e.First))) ∧ (max 0 (IntKind.i64.wrap (l.First - e.First))) ≤ (e.L.length : Int)) (
           obind (slices_Clone_weirgate_api_Segment_weirgate_api_Segment_28 (e.L.take (((max 0 (IntKind.i64.wrap (l.First - e.First)))).toNat))) fun r115 =>
           need (r115.length + l.L.length ≤ 4294967296) (
           some (.go ((IntKind.i64.wrap (l.First - (max 0 (IntKind.i64.wrap (l.First - e.First))))), (r115 ++ l.L))))))))
         (some (.go (l.First, r67)))))
      (fun (x_83, x_84) =>
       obind (playlist_cut (S_api_Playlist.mk x_83 x_84 done) w) fun r121 =>
       some (r121, 0)))))) : R = some (mergeEL e l done w) := by
  rw [hR]; clear hR R
  have e1 := he.1; have e2 := he.2.1; have e3 := he.2.2.1
  have l1 := hl.1; have l2 := hl.2.1; have l3 := hl.2.2.1
  rw [next_at he, next_at hl]
  have cut : ∀ (f : Int) (L : List S_api_Segment), -4611686018427387904 ≤ f ∧ f ≤ 4611686018427387904 → L.length ≤ 1000000 → (obind (playlist_cut ⟨f, L, done⟩ w) fun r121 => some (r121, (0 : Int))) = some (cutP ⟨f, L, done⟩ w, 0) := by
    intro f L hf hL
    rw [cut_id _ w (by omega) (by omega) hL hf]
    rfl
  unfold mergeEL
  by_cases hd : e.Done = true ∧ nextP e < nextP l
  · rw [if_pos hd, hd.1]
    simp only [cond_true, obind, Option.bind_some, bindJ_go, hd.2, decide_true]
  · rw [if_neg hd]
    have hd' : bindJ (S := Bool) (R := S_api_Playlist × Int) (cond e.Done (obind (some (nextP e)) fun r43 => obind (some (nextP l)) fun r45 => some (.go (decide (r43 < r45)))) (some (.go false))) = fun k => k false := by
      funext k
      cases hD : e.Done with
      | false => rfl
      | true =>
        have : ¬ nextP e < nextP l := fun h => hd ⟨hD, h⟩
        simp only [cond_true, obind, Option.bind_some, bindJ_go, decide_eq_false this]
    rw [hd']
    simp only [cond_false]
    rcases merge_loop e l hl (by omega) n hn with ⟨h1, h2⟩ | ⟨h1, h2⟩
    · rw [h1, if_neg (fun h => h h2)]
      simp only [bindJ_go]
      rw [clone_eq _ (by omega)]
      simp only [obind, Option.bind_some]
      by_cases hm : Meet e l
      · obtain ⟨m1, m2, m3⟩ := hm
        rw [if_pos ⟨m1, m2, m3⟩, decide_eq_true (show (0 : Int) < (e.L.length : Int) by omega), decide_eq_true (show (0 : Int) < (l.L.length : Int) by omega)]
        simp only [Bool.and_true, cond_true, bindJ_go, decide_eq_true m3]
        have hbf : max 0 (l.First - e.First) ≤ (e.L.length : Int) := by unfold nextP at m3; omega
        have fin : (need (0 ≤ (0 : Int) ∧ 0 ≤ (max 0 (IntKind.i64.wrap (l.First - e.First))) ∧ (max 0 (IntKind.i64.wrap (l.First - e.First))) ≤ (e.L.length : Int)) (
           (slices_Clone_weirgate_api_Segment_weirgate_api_Segment_28 (e.L.take (((max 0 (IntKind.i64.wrap (l.First - e.First)))).toNat))).bind fun r115 =>
           need (r115.length + l.L.length ≤ 4294967296) (
           some (.go ((IntKind.i64.wrap (l.First - (max 0 (IntKind.i64.wrap (l.First - e.First))))), (r115 ++ l.L)) : Lp (Int × List S_api_Segment) (S_api_Playlist × Int))))) = some (.go ((joinEL e l done).First, (joinEL e l done).L)) := by
          rw [w64 (x := l.First - e.First) (by omega) (by omega), need_pos (by omega), clone_eq _ (by simp; omega)]
          simp only [Option.bind_some]
          rw [need_pos (by simp; omega), w64 (by omega) (by omega)]
          rfl
        have bs : playlist_Edge ⟨e.First, e.L, e.Done⟩ = some (edgeP e) := edge_eq he m1
        have jb : -4611686018427387904 ≤ (joinEL e l done).First ∧ (joinEL e l done).First ≤ 4611686018427387904 := by unfold joinEL; simp only; omega
        have jl : (joinEL e l done).L.length ≤ 1000000 := by unfold joinEL; simp; omega
        have last := cut (joinEL e l done).First (joinEL e l done).L jb jl
        simp only [obind] at last
        by_cases hn1 : nextP e = l.First
        · rw [decide_eq_true hn1]
          simp only [cond_true]
          rw [show (0 : Int) = ((0 : Nat) : Int) from rfl, idx_get' m2, bs]
          have hb : l.L[0].Begin = beginP l := by unfold beginP; rw [List.getElem?_eq_getElem m2]; rfl
          simp only [Option.bind_some, bindJ_go, hb]
          by_cases hg : edgeP e ≠ beginP l
          · rw [decide_eq_true hg, cond_true, if_pos ⟨hn1, hg⟩]; rfl
          · rw [decide_eq_false hg, cond_false, if_neg (fun h => hg h.2)]
            have fin' := fin
            simp only [show (0 : Int) = ((0 : Nat) : Int) from rfl] at fin' last ⊢
            rw [fin', bindJ_go]
            exact last
        · rw [decide_eq_false hn1]
          simp only [cond_false, bindJ_go]
          rw [if_neg (fun h => hn1 h.1), fin, bindJ_go]
          exact last
      · rw [if_neg hm]
        have hlast := cut l.First l.L (by omega) (by omega)
        simp only [obind] at hlast
        by_cases hz : 0 < e.L.length ∧ 0 < l.L.length
        · have h3 : ¬ l.First ≤ nextP e := fun h => hm ⟨hz.1, hz.2, h⟩
          rw [decide_eq_true (show (0 : Int) < (e.L.length : Int) by omega), decide_eq_true (show (0 : Int) < (l.L.length : Int) by omega)]
          simp only [Bool.and_true, cond_true, bindJ_go, decide_eq_false h3, cond_false]
          exact hlast
        · have : (decide (0 < (e.L.length : Int)) && decide (0 < (l.L.length : Int))) = false := by
            rw [Bool.eq_false_iff]; intro h; simp only [Bool.and_eq_true, decide_eq_true_eq] at h; omega
          rw [this]
          simp only [cond_false, bindJ_go]
          exact hlast
    · rw [h1, if_pos h2]
      rfl
theorem merge_eq (a b : S_api_Playlist) (ha : VP a) (hb : VP b) (w : Int) (n : Nat) (hn : 1000 < n) : playlist_Merge n a b w = some (mergeP a b w) := by
  unfold playlist_Merge mergeP
  by_cases hw : 1 ≤ w ∧ w ≤ 100
  · have e : (decide (w < 1) || decide (100 < w)) = false := by rw [Bool.eq_false_iff]; intro h; simp only [Bool.or_eq_true, decide_eq_true_eq] at h; omega
    rw [e, cond_false, if_pos hw]
    rw [show playlist_Next b = some (nextP b) from next_eq hb, show playlist_Next a = some (nextP a) from next_eq ha]
    by_cases hlt : nextP a < nextP b
    · rw [if_pos hlt]
      simp only [obind, Option.bind_some, decide_eq_true hlt, cond_true, bindJ_go]
      exact mergeEL_eq a b ha hb (by omega) (a.Done || b.Done) w hw.1 hw.2 n hn _ rfl
    · rw [if_neg hlt]
      simp only [obind, Option.bind_some, decide_eq_false hlt, cond_false, bindJ_go]
      exact mergeEL_eq b a hb ha (by omega) (a.Done || b.Done) w hw.1 hw.2 n hn _ rfl
  · have e : (decide (w < 1) || decide (100 < w)) = true := by simp only [Bool.or_eq_true, decide_eq_true_eq]; omega
    rw [e, cond_true, if_neg hw]
end Go.Proofs.YtbgpojdmdnkeaaaDoor
