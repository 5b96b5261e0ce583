/-
  Texts that stand side by side: AbsPlain, Pa, Pg, G5a, Ph, W5, Pi, AbsEnd, AbsEnd2, AbsEnd3, AbsEnd4, AbsEnd5, AbsLaid, Opn, P5, LaidD.
-/
import Derived.Test.YtbgpojdmdnkeaaaDoorM1
import Derived.Test.YtbgpojdmdnkeaaaDoorFe
import Derived.Test.YtbgpojdmdnkeaaaDoorM0
import Derived.WalkKit
import Derived.ProofKit
import Derived.OpenShut
import Derived.ShutString
import Derived.ChangeOld
import Derived.Below
import Derived.SliceStrings
import Derived.ChangeArms
import Derived.Test.YtbgpojdmdnkeaaaDoorM2
import Derived.LaidHandle
import Derived.Deep.DeepHandedRow
import Derived.Test.YtbgpojdmdnkeaaaDoorRows
import Derived.Test.YtbgpojdmdnkeaaaDoorChecked
namespace Go.Abs
@[simp] theorem bindJ_go {S R : Type} (s : S) (k : S → Option R) : bindJ (some (.go s)) k = k s := rfl
@[simp] theorem bindJ_stop {S R : Type} (r : R) (k : S → Option R) : bindJ (some (.stop r)) k = some r := rfl
@[simp] theorem bindJ_none {S R : Type} (k : S → Option R) : bindJ (none : Option (Lp S R)) k = none := rfl
theorem need_pos {α : Type} {p : Prop} [Decidable p] (h : p) (x : Option α) : need p x = x := by simp [need, h]
theorem idx_get {α β : Type} {l : List α} {i : Nat} {x : α} (h : l[i]? = some x) (k : α → Option β) : idx l (i : Int) k = k x := by simp [idx, h]
theorem idx_get' {α β : Type} {l : List α} {i : Nat} (h : i < l.length) (k : α → Option β) : idx l (i : Int) k = k l[i] := idx_get (List.getElem?_eq_getElem h) k
theorem iter_go {S R : Type} {step : S → Option (Lp S R)} {n : Nat} {s s' : S} (h : step s = some (.go s')) : iter step (n + 1) s = iter step n s' := by simp [iter, h]
theorem iter_stop {S R : Type} {step : S → Option (Lp S R)} {n : Nat} {s : S} {r : R} (h : step s = some (.stop r)) : iter step (n + 1) s = some r := by simp [iter, h]
/-- a loop by an invariant and a measure -/
theorem iter_inv {S R : Type} {step : S → Option (Lp S R)} (inv : S → Prop) (μ : S → Nat) (post : R → Prop)
    (h : ∀ s, inv s → (∃ s', step s = some (.go s') ∧ inv s' ∧ μ s' < μ s) ∨ (∃ r, step s = some (.stop r) ∧ post r)) :
    ∀ (n : Nat) (s : S), inv s → μ s < n → ∃ r, iter step n s = some r ∧ post r
  | 0, s, _, hm => by omega
  | n + 1, s, hi, hm => by
    rcases h s hi with ⟨s', h1, h2, h3⟩ | ⟨r, h1, h2⟩
    · obtain ⟨r, h4, h5⟩ := iter_inv inv μ post h n s' h2 (by omega)
      exact ⟨r, by rw [iter_go h1, h4], h5⟩
    · exact ⟨r, iter_stop h1, h2⟩
theorem w64 {x : Int} (h1 : -9223372036854775808 ≤ x) (h2 : x ≤ 9223372036854775807) : IntKind.i64.wrap x = x := wrap_i64 h1 h2
end Go.Abs
namespace Go.Abs
/-- a walk along a list that may stop -/
def foldL {α S R : Type} (f : S → α → Lp S R) (fin : S → R) : S → List α → R
  | s, [] => fin s
  | s, x :: r => match f s x with
    | .go s' => foldL f fin s' r
    | .stop q => q
def Lp.mapS {S T R : Type} (g : S → T) : Lp S R → Lp T R
  | .go s => .go (g s)
  | .stop r => .stop r
@[simp] theorem mapS_go {S T R : Type} (g : S → T) (s : S) : (Lp.go s : Lp S R).mapS g = .go (g s) := rfl
@[simp] theorem mapS_stop {S T R : Type} (g : S → T) (r : R) : (Lp.stop r : Lp S R).mapS g = .stop r := rfl
/-- a loop that counts along a list -/
theorem iter_fold {α S T R : Type} {step : T → Option (Lp T R)} {l : List α} (mk : Nat → S → T) (f : S → α → Lp S R) (fin : S → R) (inv : Nat → S → Prop)
    (hgo : ∀ i s x, inv i s → l[i]? = some x → step (mk i s) = some ((f s x).mapS (mk (i + 1))) ∧ ∀ s', f s x = .go s' → inv (i + 1) s')
    (hend : ∀ s, inv l.length s → step (mk l.length s) = some (.stop (fin s))) :
    ∀ (n i : Nat) (s : S), inv i s → i ≤ l.length → l.length - i < n → iter step n (mk i s) = some (foldL f fin s (l.drop i))
  | 0, i, s, _, _, h => by omega
  | n + 1, i, s, hi, hle, h => by
    by_cases e : i = l.length
    · subst e
      rw [iter_stop (hend s hi), List.drop_length]; rfl
    · have hlt : i < l.length := by omega
      obtain ⟨h1, h2⟩ := hgo i s _ hi (List.getElem?_eq_getElem hlt)
      rw [List.drop_eq_getElem_cons hlt]
      cases hf : f s l[i] with
      | go s' =>
        rw [hf] at h1
        rw [iter_go h1, iter_fold mk f fin inv hgo hend n (i + 1) s' (h2 s' hf) (by omega) (by omega)]
        simp [foldL, hf]
      | stop q =>
        rw [hf] at h1
        rw [iter_stop h1]
        simp [foldL, hf]
end Go.Abs
namespace Go.Abs
theorem foldL_gom {α S R : Type} {f : S → α → Lp S R} {fin : S → R} (g : S → α → S) : ∀ (l : List α) (s : S), (∀ s x, x ∈ l → f s x = .go (g s x)) → foldL f fin s l = fin (l.foldl g s)
  | [], s, _ => rfl
  | x :: r, s, h => by
    simp only [foldL, h s x (List.mem_cons_self ..), List.foldl_cons]
    exact foldL_gom g r _ (fun s y hy => h s y (List.mem_cons_of_mem _ hy))
/-- a loop that counts up to N -/
theorem iter_range {S T R : Type} {step : T → Option (Lp T R)} (N : Nat) (mk : Nat → S → T) (f : S → Nat → Lp S R) (fin : S → R) (inv : Nat → S → Prop)
    (hgo : ∀ i s, inv i s → i < N → step (mk i s) = some ((f s i).mapS (mk (i + 1))) ∧ ∀ s', f s i = .go s' → inv (i + 1) s')
    (hend : ∀ s, inv N s → step (mk N s) = some (.stop (fin s))) (n : Nat) (s : S) (h0 : inv 0 s) (hn : N < n) : iter step n (mk 0 s) = some (foldL f fin s (List.range N)) := by
  have := iter_fold (l := List.range N) mk f fin inv (fun i s x hi hx => by
    have hlt := (List.getElem?_eq_some_iff.1 hx).1
    simp at hlt
    have : x = i := by simp [hlt] at hx; exact hx.symm
    subst this
    exact hgo x s hi hlt) (fun s hs => by simpa using hend s (by simpa using hs)) n 0 s h0 (Nat.zero_le _) (by simpa using hn)
  simpa using this
theorem iter_allgo {R : Type} {step : Int → Option (Lp Int R)} (N : Nat) (q : R) (h : ∀ i : Nat, i < N → step (i : Int) = some (.go ((i + 1 : Nat) : Int))) (he : step (N : Int) = some (.stop q)) (n : Nat) (hn : N < n) : iter step n 0 = some q := by
  have := iter_range (step := step) N (fun (i : Nat) (_ : Unit) => (i : Int)) (fun _ _ => Lp.go ()) (fun _ => q) (fun _ _ => True) (fun i s _ hi => ⟨h i hi, fun _ _ => trivial⟩) (fun s _ => he) n () trivial hn
  rw [foldL_gom (fun _ _ => ()) _ _ (fun _ _ _ => rfl)] at this
  exact this
end Go.Abs
namespace Go.Proofs.YtbgpojdmdnkeaaaDoor
open Go.Abs
set_option linter.unusedSimpArgs false
set_option linter.unusedVariables false
theorem sane (n : Nat) : law43_sanity (n + 40) = some true := by kernel_rfl
def okSeg (s : S_api_Segment) : Prop := 0 ≤ s.Num ∧ s.Num ≤ 1099511627776 ∧ 0 ≤ s.Begin ∧ s.Begin ≤ 1099511627776 ∧ 1 ≤ s.Len ∧ s.Len ≤ 60000 ∧ 0 ≤ s.Size ∧ s.Size ≤ 1099511627776
instance (s : S_api_Segment) : Decidable (okSeg s) := by unfold okSeg; exact inferInstance
theorem right_eq (s : S_api_Segment) : playlist_right s = some (decide (okSeg s)) := by
  unfold playlist_right
  congr 1
  rw [Bool.eq_iff_iff]
  simp only [Bool.and_eq_true, decide_eq_true_eq]
  unfold okSeg
  omega
def joins (a b : S_api_Segment) : Prop := b.Num = a.Num + 1 ∧ b.Begin = a.Begin + a.Len
instance (a b : S_api_Segment) : Decidable (joins a b) := by unfold joins; exact inferInstance
theorem end_eq {s : S_api_Segment} (h : okSeg s) : playlist_end s = some (s.Begin + s.Len) := by
  unfold playlist_end
  unfold okSeg at h
  rw [w64 (by omega) (by omega)]
def Strm (l : List S_api_Segment) : Prop := (∀ i (h : i < l.length), okSeg l[i]) ∧ ∀ i (h : i + 1 < l.length), joins l[i] l[i + 1]
theorem stream_loop (l : List S_api_Segment) (hl : l.length ≤ 4294967296) (n : Nat) (hn : l.length < n) :
    ∃ r, iter (playlist_stream_L1 l) n 0 = some r ∧ ((r = .go () ∧ Strm l) ∨ (r = .stop false ∧ ¬ Strm l)) := by
  refine iter_inv (step := playlist_stream_L1 l) (fun s : Int => ∃ i : Nat, s = i ∧ i ≤ l.length ∧ (∀ j (h : j < l.length), j < i → okSeg l[j]) ∧ ∀ j (h : j + 1 < l.length), j + 1 < i → joins l[j] l[j + 1]) (fun s => l.length - s.toNat) _ ?_ n 0 ⟨0, rfl, Nat.zero_le _, fun j h hj => by omega, fun j h hj => by omega⟩ (by simpa using hn)
  rintro s ⟨i, rfl, hi, hok, hj⟩
  unfold playlist_stream_L1
  by_cases hlt : i < l.length
  · have e : decide ((i : Int) < (l.length : Int)) = true := by simpa using hlt
    simp only [e, cond_true]
    rw [idx_get' hlt, right_eq]
    simp only [obind, Option.bind_some]
    by_cases hk : okSeg l[i]
    · simp only [hk, decide_true, Bool.not_true, cond_false]
      by_cases h0 : i = 0
      · subst h0
        left
        refine ⟨1, by simp [w64], ⟨1, rfl, by omega, fun j h hj' => ?_, fun j h hj' => by omega⟩, by simp; omega⟩
        obtain rfl : j = 0 := by omega
        exact hk
      · have e1 : decide (0 < (i : Int)) = true := by simp; omega
        simp only [e1, cond_true]
        have hp : i - 1 < l.length := by omega
        rw [w64 (x := (i : Int) - 1) (by omega) (by omega), show (i : Int) - 1 = ((i - 1 : Nat) : Int) by omega, idx_get' hp]
        have hkp := hok (i - 1) hp (by omega)
        rw [end_eq hkp]
        have hkp' := hkp
        unfold okSeg at hkp'
        rw [w64 (x := l[i - 1].Num + 1) (by omega) (by omega)]
        simp only [obind, Option.bind_some]
        by_cases hjn : joins l[i - 1] l[i]
        · left
          obtain ⟨j1, j2⟩ := hjn
          refine ⟨((i + 1 : Nat) : Int), ?_, ⟨i + 1, rfl, by omega, fun j h hj' => ?_, fun j h hj' => ?_⟩, by simp; omega⟩
          · simp only [j1, j2, ne_eq, not_true_eq_false, decide_false, cond_false, bindJ_go]
            rw [w64 (x := (i : Int) + 1) (by omega) (by omega)]; rfl
          · by_cases e : j = i
            · subst e; exact hk
            · exact hok j h (by omega)
          · by_cases e : j + 1 = i
            · subst e; exact ⟨j1, j2⟩
            · exact hj j h (by omega)
        · right
          refine ⟨.stop false, ?_, .inr ⟨rfl, fun hS => hjn ?_⟩⟩
          · by_cases hn : l[i].Num = l[i - 1].Num + 1
            · have hb : ¬ l[i].Begin = l[i - 1].Begin + l[i - 1].Len := fun h => hjn ⟨hn, h⟩
              simp [hn, hb]
            · simp [hn]
          · have := hS.2 (i - 1) (by omega)
            simpa [show i - 1 + 1 = i by omega] using this
    · right
      refine ⟨.stop false, by simp [hk], .inr ⟨rfl, fun hS => hk (hS.1 i hlt)⟩⟩
  · have e : decide ((i : Int) < (l.length : Int)) = false := by simp; omega
    right
    exact ⟨.go (), by simp only [e, cond_false], .inl ⟨rfl, fun j h => hok j h (by omega), fun j h => hj j h (by omega)⟩⟩
open Classical in
theorem stream_eq (l : List S_api_Segment) (hl : l.length ≤ 4294967296) (n : Nat) (hn : l.length < n) : playlist_stream n l = some (decide (Strm l ∧ l.length ≤ 1000)) := by
  unfold playlist_stream
  obtain ⟨r, e, h⟩ := stream_loop l hl n hn
  rw [e]
  rcases h with ⟨rfl, h⟩ | ⟨rfl, h⟩
  · have e1 : ((l.length : Int) ≤ 1000) ↔ (Strm l ∧ l.length ≤ 1000) := ⟨fun q => ⟨h, by omega⟩, fun q => by have := q.2; omega⟩
    simp only [bindJ_go, e1]
  · have e1 : ¬ (Strm l ∧ l.length ≤ 1000) := fun q => h q.1
    simp only [bindJ_stop, e1, decide_false]
end Go.Proofs.YtbgpojdmdnkeaaaDoor
namespace Go.Proofs.YtbgpojdmdnkeaaaDoor
open Go.Abs
set_option linter.unusedSimpArgs false
set_option linter.unusedVariables false
def gi (l : List Int) (i : Nat) : Int := (l[i]?).getD 0
def gl (a : List (List Int)) (k : Nat) : List Int := (a[k]?).getD []
theorem gi_at {l : List Int} {i : Nat} (h : i < l.length) : l[i]? = some (gi l i) := by unfold gi; rw [List.getElem?_eq_getElem h]; rfl
theorem gl_at {a : List (List Int)} {k : Nat} (h : k < a.length) : a[k]? = some (gl a k) := by unfold gl; rw [List.getElem?_eq_getElem h]; rfl
theorem gi_get {l : List Int} {i : Nat} (h : i < l.length) : gi l i = l[i] := by unfold gi; rw [List.getElem?_eq_getElem h]; rfl
theorem gi_set_eq {l : List Int} {i : Nat} (h : i < l.length) (v : Int) : gi (l.set i v) i = v := by unfold gi; rw [List.getElem?_set_self h]; rfl
theorem gi_set_ne {l : List Int} {i j : Nat} (h : i ≠ j) (v : Int) : gi (l.set i v) j = gi l j := by unfold gi; rw [List.getElem?_set_ne h]
theorem gl_set_eq {l : List (List Int)} {i : Nat} (h : i < l.length) (v : List Int) : gl (l.set i v) i = v := by unfold gl; rw [List.getElem?_set_self h]; rfl
theorem gl_set_ne {l : List (List Int)} {i j : Nat} (h : i ≠ j) (v : List Int) : gl (l.set i v) j = gl l j := by unfold gl; rw [List.getElem?_set_ne h]
/-- the greatest so far -/
def Pmx (f : Nat → Int) (a : List Int) (N : Nat) : Prop := a.length = N ∧ (0 < N → gi a 0 = f 0) ∧ ∀ i, i + 1 < N → gi a (i + 1) = max (f (i + 1)) (gi a i)
theorem Pmx.bounds {f : Nat → Int} {a : List Int} {N : Nat} (h : Pmx f a N) {B : Int} (hf : ∀ i, i < N → 0 ≤ f i ∧ f i ≤ B) : ∀ i, i < N → 0 ≤ gi a i ∧ gi a i ≤ B := by
  intro i
  induction i with
  | zero => intro hi; rw [h.2.1 hi]; exact hf 0 hi
  | succ i ih => intro hi; have h1 := ih (by omega); have h2 := hf (i + 1) hi; have := h.2.2 i hi; omega
def arrStep {R : Type} (N : Int) (g : Int → Option Int) : (Int × List Int) → Option (Lp (Int × (List Int)) (Lp ((List Int)) R)) :=
 fun (s_8, x_9) =>
  cond (decide (s_8 < N))
   (bindJ (S := (List Int))
    (obind (g s_8) fun r20 =>
    idx x_9 s_8 fun x22 =>
    cond (decide (0 < s_8))
     (idx (x_9.set s_8.toNat r20) (IntKind.i64.wrap (s_8 - 1)) fun x25 =>
     some (.go ((x_9.set s_8.toNat r20).set s_8.toNat (max r20 x25))))
     (some (.go (x_9.set s_8.toNat r20))))
   (fun x_15 =>
    some (.go ((IntKind.i64.wrap (s_8 + 1)), x_15))))
   (some (.stop (.go x_9)))
theorem arr_loop {R : Type} (N : Nat) (hN : N ≤ 1000000) (g : Int → Option Int) (f : Nat → Int) (hg : ∀ i : Nat, i < N → g (i : Int) = some (f i)) (n : Nat) (hn : N < n) :
    ∃ a, iter (arrStep (R := R) (N : Int) g) n (0, List.replicate ((N : Int)).toNat (0 : Int)) = some (.go a) ∧ Pmx f a N := by
  obtain ⟨r, e, a, h1, h2⟩ := iter_inv (step := arrStep (R := R) (N : Int) g) (fun s => ∃ (i : Nat) (x : List Int), s = ((i : Int), x) ∧ i ≤ N ∧ x.length = N ∧ (0 < i → gi x 0 = f 0) ∧ ∀ j, j + 1 < i → gi x (j + 1) = max (f (j + 1)) (gi x j)) (fun s => N - s.1.toNat) (fun r => ∃ a, r = .go a ∧ Pmx f a N) (by
    rintro s ⟨i, x, rfl, hi, hx, h0, hj⟩
    unfold arrStep
    by_cases hlt : i < N
    · have e : decide ((i : Int) < (N : Int)) = true := decide_eq_true (by omega)
      simp only [e, cond_true]
      rw [hg i hlt]
      simp only [obind, Option.bind_some]
      rw [idx_get (gi_at (l := x) (i := i) (by omega))]
      left
      by_cases hz : i = 0
      · subst hz
        refine ⟨((1 : Nat), x.set 0 (f 0)), rfl, ⟨1, x.set 0 (f 0), rfl, by omega, by simp [hx], fun _ => gi_set_eq (by omega) _, fun j hj' => by omega⟩, by simp; omega⟩
      · have e1 : decide ((0 : Int) < (i : Int)) = true := decide_eq_true (by omega)
        simp only [e1, cond_true, Int.toNat_natCast]
        rw [w64 (x := (i : Int) - 1) (by omega) (by omega), show (i : Int) - 1 = ((i - 1 : Nat) : Int) by omega, idx_get (gi_at (l := x.set i (f i)) (i := i - 1) (by simp; omega)), gi_set_ne (by omega), bindJ_go,
          w64 (x := (i : Int) + 1) (by omega) (by omega)]
        refine ⟨_, rfl, ⟨i + 1, (x.set i (f i)).set i (max (f i) (gi x (i - 1))), rfl, by omega, by simp [hx], fun _ => ?_, fun j hj' => ?_⟩, by simp; omega⟩
        · rw [gi_set_ne (by omega), gi_set_ne (by omega)]; exact h0 (by omega)
        · by_cases e2 : j + 1 = i
          · subst e2
            rw [gi_set_eq (by simp; omega), gi_set_ne (by omega), gi_set_ne (by omega), Nat.add_sub_cancel]
          · rw [gi_set_ne (by omega), gi_set_ne (by omega), gi_set_ne (by omega), gi_set_ne (by omega)]
            exact hj j (by omega)
    · have e : decide ((i : Int) < (N : Int)) = false := decide_eq_false (by omega)
      obtain rfl : i = N := by omega
      right
      exact ⟨_, by simp only [e, cond_false], x, rfl, hx, h0, hj⟩) n (0, List.replicate ((N : Int)).toNat (0 : Int)) ⟨0, _, rfl, by omega, by simp, fun h => by omega, fun j h => by omega⟩ (by simpa using hn)
  exact ⟨a, by rw [e, h1], h2⟩
def sEnd (l : List S_api_Segment) (i : Nat) : Int := ((l[i]?).map fun s => s.Begin + s.Len).getD 0
theorem sEnd_at {l : List S_api_Segment} {i : Nat} (h : i < l.length) : sEnd l i = l[i].Begin + l[i].Len := by unfold sEnd; rw [List.getElem?_eq_getElem h]; rfl
theorem sEnd_bounds {l : List S_api_Segment} (hs : Strm l) {i : Nat} (h : i < l.length) : 0 ≤ sEnd l i ∧ sEnd l i ≤ 2199023255552 := by
  have := hs.1 i h
  unfold okSeg at this
  rw [sEnd_at h]; omega
theorem end_get {l : List S_api_Segment} (hs : Strm l) {i : Nat} (h : i < l.length) : playlist_end l[i] = some (sEnd l i) := by
  rw [end_eq (hs.1 i h), sEnd_at h]
theorem first_row {l : List S_api_Segment} (hs : Strm l) (hl : l.length ≤ 1000) (n : Nat) (hn : 1000 < n) (a : List (List Int)) (ha : 0 < a.length) :
    ∃ x, playlist_Spread_1_38 n 0 l a = some (a.set 0 x) ∧ Pmx (sEnd l) x l.length := by
  unfold playlist_Spread_1_38
  rw [need_pos (by omega)]
  obtain ⟨x, e, h⟩ := arr_loop (R := List (List Int)) l.length (by omega) (fun s => playlist_Spread_2_39 s l) (sEnd l) (fun i hi => by
    unfold playlist_Spread_2_39
    rw [idx_get' hi, end_get hs hi]
    rfl) n (by omega)
  have e' : iter (playlist_Spread_1_38_L1 l) n (0, List.replicate ((l.length : Int)).toNat (0 : Int)) = some (.go x) := e
  rw [e', bindJ_go, show (0 : Int) = ((0 : Nat) : Int) from rfl, idx_get (gl_at ha)]
  exact ⟨x, rfl, h⟩
theorem next_row {N : Nat} (l : List S_api_Segment) (hl : l.length ≤ 1000) (delays a : List (List Int)) (k p : Nat) (hk : k < a.length) (hp : p < a.length) (hd : k < delays.length) (hpl : (gl a p).length = l.length) (hdl : (gl delays k).length = l.length)
    (hb : ∀ i, i < l.length → -4611686018427387904 ≤ gi (gl a p) i + gi (gl delays k) i ∧ gi (gl a p) i + gi (gl delays k) i ≤ 4611686018427387904) (n : Nat) (hn : 1000 < n) :
    ∃ x, playlist_Spread_1_38_v1 n (k : Int) a (p : Int) delays (k : Int) l = some (a.set k x) ∧ Pmx (fun i => gi (gl a p) i + gi (gl delays k) i) x l.length := by
  unfold playlist_Spread_1_38_v1
  rw [need_pos (by omega)]
  obtain ⟨x, e, h⟩ := arr_loop (R := List (List Int)) l.length (by omega) (fun s => playlist_Spread_4_43 s a (p : Int) delays (k : Int)) (fun i => gi (gl a p) i + gi (gl delays k) i) (fun i hi => by
    unfold playlist_Spread_4_43
    have := hb i hi
    rw [idx_get (gl_at hp), idx_get (gi_at (by omega)), idx_get (gl_at hd), idx_get (gi_at (by omega)), w64 (by omega) (by omega)]) n (by omega)
  have e' : iter (playlist_Spread_1_38_v1_L1 a (p : Int) delays (k : Int) l) n (0, List.replicate ((l.length : Int)).toNat (0 : Int)) = some (.go x) := e
  rw [e', bindJ_go, idx_get (gl_at hk)]
  exact ⟨x, rfl, h⟩
theorem bad_delay (l : List Int) (hl : l.length ≤ 1000000) (n : Nat) (hn : l.length < n) : slices_ContainsFunc_int_int_41 n l = some (l.any fun d => decide (d < 0) || decide (1099511627776 < d)) := by
  unfold slices_ContainsFunc_int_int_41 slices_IndexFunc_int_int_44
  have key := iter_fold (l := l) (step := slices_IndexFunc_int_int_44_L1 l) (fun i (_ : Nat) => (i : Int)) (fun (i : Nat) d => cond (decide (d < 0) || decide (1099511627776 < d)) (.stop (.stop (i : Int))) (.go (i + 1))) (fun _ => .go ()) (fun i j => i = j) (by
    rintro i j x rfl hx
    obtain ⟨hi, rfl⟩ := List.getElem?_eq_some_iff.1 hx
    unfold slices_IndexFunc_int_int_44_L1 playlist_Spread_3_42
    have e : decide ((i : Int) < (l.length : Int)) = true := decide_eq_true (by omega)
    simp only [e, cond_true]
    rw [idx_get' hi]
    simp only [obind, Option.bind_some]
    cases decide (l[i] < 0) || decide (1099511627776 < l[i])
    · simp only [cond_false, mapS_go]
      rw [w64 (by omega) (by omega)]
      exact ⟨rfl, fun s' hs => by cases hs; rfl⟩
    · exact ⟨rfl, fun s' hs => by cases hs⟩) (by
    intro s hs
    unfold slices_IndexFunc_int_int_44_L1
    simp) n 0 0 rfl (Nat.zero_le _) (by omega)
  have e : iter (slices_IndexFunc_int_int_44_L1 l) n 0 = _ := key
  rw [e, List.drop_zero]
  have gen : ∀ (l : List Int) (k : Nat), ∃ r, foldL (fun (i : Nat) d => cond (decide (d < 0) || decide (1099511627776 < d)) (Lp.stop (.stop (i : Int))) (.go (i + 1))) (fun _ => (.go () : Lp Unit Int)) k l = r ∧ ((r = .go () ∧ (l.any fun d => decide (d < 0) || decide (1099511627776 < d)) = false) ∨ (∃ j : Nat, r = .stop (j : Int)) ∧ (l.any fun d => decide (d < 0) || decide (1099511627776 < d)) = true) := by
    intro l
    induction l with
    | nil => intro k; exact ⟨_, rfl, .inl ⟨rfl, rfl⟩⟩
    | cons x r ih =>
      intro k
      unfold foldL
      rw [List.any_cons]
      cases decide (x < 0) || decide (1099511627776 < x)
      · simpa using ih (k + 1)
      · exact ⟨_, rfl, .inr ⟨⟨k, rfl⟩, rfl⟩⟩
  obtain ⟨r, e, h⟩ := gen l 0
  rw [e]
  rcases h with ⟨rfl, h⟩ | ⟨⟨j, rfl⟩, h⟩
  · rw [h]; rfl
  · rw [h]; simp [obind]
/-- places and delays are as they must be -/
def TreeAt (N : Nat) (parents : List Int) (delays : List (List Int)) (k : Nat) : Prop := 0 ≤ gi parents k ∧ gi parents k < k ∧ (gl delays k).length = N ∧ ∀ d ∈ gl delays k, 0 ≤ d ∧ d ≤ 1099511627776
def Tree (N : Nat) (parents : List Int) (delays : List (List Int)) : Prop := 1 ≤ parents.length ∧ parents.length ≤ 100 ∧ delays.length = parents.length ∧ ∀ k, 1 ≤ k → k < parents.length → TreeAt N parents delays k
def SprTo (l : List S_api_Segment) (parents : List Int) (delays out : List (List Int)) (K : Nat) : Prop :=
  Pmx (sEnd l) (gl out 0) l.length ∧ ∀ k, 1 ≤ k → k < K → Pmx (fun i => gi (gl out (gi parents k).toNat) i + gi (gl delays k) i) (gl out k) l.length
def Spr (l : List S_api_Segment) (parents : List Int) (delays out : List (List Int)) : Prop := out.length = parents.length ∧ SprTo l parents delays out parents.length
theorem spr_bounds {l : List S_api_Segment} (hs : Strm l) {parents : List Int} {delays out : List (List Int)} {K : Nat} (hT : ∀ k, 1 ≤ k → k < K → TreeAt l.length parents delays k) (h : SprTo l parents delays out K) :
    ∀ k, k < K → ∀ i, i < l.length → 0 ≤ gi (gl out k) i ∧ gi (gl out k) i ≤ 2199023255552 + 1099511627776 * (k : Int) := by
  intro k
  induction k using Nat.strongRecOn with
  | _ k ih =>
    intro hk
    by_cases h0 : k = 0
    · subst h0
      intro i hi
      have := h.1.bounds (B := 2199023255552) (fun i hi => sEnd_bounds hs hi) i hi
      omega
    · obtain ⟨t1, t2, t3, t4⟩ := hT k (by omega) hk
      refine (h.2 k (by omega) hk).bounds (fun i hi => ?_)
      have h1 := ih (gi parents k).toNat (by omega) (by omega) i hi
      have h2 := t4 (gi (gl delays k) i) (by rw [gi_get (by omega)]; exact List.getElem_mem _)
      omega
theorem sprTo_set {l : List S_api_Segment} {parents : List Int} {delays out : List (List Int)} {k : Nat} (hk : 1 ≤ k) (hl : k < out.length) (hT : ∀ j, 1 ≤ j → j < k + 1 → gi parents j < j ∧ 0 ≤ gi parents j) (h : SprTo l parents delays out k) {x : List Int}
    (hx : Pmx (fun i => gi (gl out (gi parents k).toNat) i + gi (gl delays k) i) x l.length) : SprTo l parents delays (out.set k x) (k + 1) := by
  refine ⟨by rw [gl_set_ne (by omega)]; exact h.1, fun j hj hjk => ?_⟩
  have hp := hT j hj hjk
  rw [gl_set_ne (i := k) (j := (gi parents j).toNat) (by omega)]
  by_cases e : j = k
  · subst e; rw [gl_set_eq hl]; exact hx
  · rw [gl_set_ne (by omega)]; exact h.2 j hj (by omega)
theorem spread_loop (l : List S_api_Segment) (hs : Strm l) (hl : l.length ≤ 1000) (parents : List Int) (delays : List (List Int)) (hp : parents.length ≤ 100) (hd : delays.length = parents.length) (hdl : ∀ d ∈ delays, d.length ≤ 1000000)
    (out : List (List Int)) (ho : out.length = parents.length) (h1 : SprTo l parents delays out 1) (hpos : 1 ≤ parents.length) (n : Nat) (hn : 2000000 < n) :
    ∃ r, iter (playlist_Spread_L1 n l parents delays) n (1, out) = some r ∧ ((∃ o, r = .go o ∧ Spr l parents delays o ∧ ∀ k, 1 ≤ k → k < parents.length → TreeAt l.length parents delays k) ∨ (r = .stop ([], 1) ∧ ¬ ∀ k, 1 ≤ k → k < parents.length → TreeAt l.length parents delays k)) := by
  refine iter_inv (step := playlist_Spread_L1 n l parents delays) (fun s => ∃ (k : Nat) (o : List (List Int)), s = ((k : Int), o) ∧ 1 ≤ k ∧ k ≤ parents.length ∧ o.length = parents.length ∧ SprTo l parents delays o k ∧ ∀ j, 1 ≤ j → j < k → TreeAt l.length parents delays j) (fun s => parents.length - s.1.toNat) _ ?_ n (1, out) ⟨1, out, rfl, by omega, hpos, ho, h1, fun j a b => by omega⟩ (by simp; omega)
  rintro s ⟨k, o, rfl, hk1, hk, hol, hS, hT⟩
  unfold playlist_Spread_L1
  by_cases hlt : k < parents.length
  · have e : decide ((k : Int) < (parents.length : Int)) = true := decide_eq_true (by omega)
    simp only [e, cond_true]
    rw [idx_get (gi_at hlt)]
    have bad : ∀ h : ¬ TreeAt l.length parents delays k, ¬ ∀ k, 1 ≤ k → k < parents.length → TreeAt l.length parents delays k := fun h q => h (q k hk1 hlt)
    by_cases hr : gi parents k < 0 ∨ (k : Int) ≤ gi parents k
    · have e1 : (decide (gi parents k < 0) || decide ((k : Int) ≤ gi parents k)) = true := by simp only [Bool.or_eq_true, decide_eq_true_eq]; exact hr
      right
      refine ⟨.stop ([], 1), ?_, .inr ⟨rfl, bad fun q => ?_⟩⟩
      · simp only [e1, cond_true, bindJ_go]
      · have := q.1; have := q.2.1; omega
    · have e1 : (decide (gi parents k < 0) || decide ((k : Int) ≤ gi parents k)) = false := by
        rw [Bool.eq_false_iff]; intro h; simp only [Bool.or_eq_true, decide_eq_true_eq] at h; exact hr h
      simp only [e1, cond_false]
      have hkd : k < delays.length := by omega
      have hdk := hdl (gl delays k) (by unfold gl; rw [List.getElem?_eq_getElem hkd]; exact List.getElem_mem _)
      rw [idx_get (gl_at hkd), bindJ_go]
      by_cases hq : (gl delays k).length = l.length
      · have e2 : decide (((gl delays k).length : Int) ≠ (l.length : Int)) = false := decide_eq_false (by omega)
        simp only [e2, cond_false]
        rw [idx_get (gl_at hkd), bad_delay _ hdk n (by omega)]
        simp only [obind, Option.bind_some, bindJ_go]
        cases ha : (gl delays k).any fun d => decide (d < 0) || decide (1099511627776 < d) with
        | true =>
          right
          refine ⟨.stop ([], 1), rfl, .inr ⟨rfl, bad fun q => ?_⟩⟩
          obtain ⟨d, hd1, hd2⟩ := List.any_eq_true.1 ha
          have := q.2.2.2 d hd1
          simp only [Bool.or_eq_true, decide_eq_true_eq] at hd2
          omega
        | false =>
          have hT' : TreeAt l.length parents delays k := by
            refine ⟨by omega, by omega, hq, fun d hd' => ?_⟩
            have := List.any_eq_false.1 ha d hd'
            simp only [Bool.or_eq_true, decide_eq_true_eq] at this
            omega
          have hTk : ∀ j, 1 ≤ j → j < k + 1 → TreeAt l.length parents delays j := fun j a b => by
            by_cases ej : j = k
            · subst ej; exact hT'
            · exact hT j a (by omega)
          have hpk : (gi parents k).toNat < k := by have := hT'.1; have := hT'.2.1; omega
          have hplen : (gl o (gi parents k).toNat).length = l.length := by
            by_cases e0 : (gi parents k).toNat = 0
            · rw [e0]; exact hS.1.1
            · exact (hS.2 _ (by omega) hpk).1
          have hbd := spr_bounds hs hT hS (gi parents k).toNat hpk
          obtain ⟨x, e3, hx⟩ := next_row (N := 0) l hl delays o k (gi parents k).toNat (by omega) (by omega) hkd hplen hq (fun i hi => by
            have a1 := hbd i hi
            have a2 := hT'.2.2.2 (gi (gl delays k) i) (by rw [gi_get (by omega)]; exact List.getElem_mem _)
            omega) n (by omega)
          rw [show (((gi parents k).toNat : Nat) : Int) = gi parents k by have := hT'.1; omega] at e3
          left
          refine ⟨(((k + 1 : Nat) : Int), o.set k x), ?_, ⟨k + 1, o.set k x, rfl, by omega, by omega, by simp [hol], sprTo_set hk1 (by omega) (fun j a b => ⟨(hTk j a b).2.1, (hTk j a b).1⟩) hS hx, hTk⟩, by simp; omega⟩
          simp only [cond_false]
          rw [e3, w64 (by omega) (by omega)]; rfl
      · have e2 : decide (((gl delays k).length : Int) ≠ (l.length : Int)) = true := decide_eq_true (by omega)
        right
        refine ⟨.stop ([], 1), ?_, .inr ⟨rfl, bad fun q => hq q.2.2.1⟩⟩
        simp only [e2, cond_true, bindJ_go]
  · have e : decide ((k : Int) < (parents.length : Int)) = false := decide_eq_false (by omega)
    obtain rfl : k = parents.length := by omega
    right
    exact ⟨_, by simp only [e, cond_false], .inl ⟨o, rfl, ⟨hol, hS⟩, hT⟩⟩
open Classical in
theorem spread_eq (l : List S_api_Segment) (hl : l.length ≤ 1000) (parents : List Int) (delays : List (List Int)) (hdl : ∀ d ∈ delays, d.length ≤ 1000000) (n : Nat) (hn : 2000000 < n) :
    ∃ r, playlist_Spread n l parents delays = some r ∧ ((r.2 = 0 ∧ Strm l ∧ Tree l.length parents delays ∧ Spr l parents delays r.1) ∨ (r = ([], 1) ∧ ¬ (Strm l ∧ Tree l.length parents delays))) := by
  unfold playlist_Spread
  rw [stream_eq l (by omega) n (by omega)]
  simp only [obind, Option.bind_some]
  by_cases hs : Strm l ∧ l.length ≤ 1000
  · simp only [decide_eq_true hs, Bool.not_true, Bool.false_or]
    by_cases hc : parents.length < 1 ∨ 100 < parents.length ∨ delays.length ≠ parents.length
    · have e : ((decide ((parents.length : Int) < 1) || decide (100 < (parents.length : Int))) || decide ((delays.length : Int) ≠ (parents.length : Int))) = true := by
        simp only [Bool.or_eq_true, decide_eq_true_eq]; omega
      rw [e, cond_true]
      exact ⟨_, rfl, .inr ⟨rfl, fun h => by obtain ⟨_, a, b, c, _⟩ := h; omega⟩⟩
    · have e : ((decide ((parents.length : Int) < 1) || decide (100 < (parents.length : Int))) || decide ((delays.length : Int) ≠ (parents.length : Int))) = false := by
        rw [Bool.eq_false_iff]; intro h; simp only [Bool.or_eq_true, decide_eq_true_eq] at h; omega
      rw [e, cond_false, need_pos (by omega)]
      obtain ⟨x, e1, hx⟩ := first_row hs.1 hs.2 n (by omega) (List.replicate ((parents.length : Int)).toNat ([] : List Int)) (by simp; omega)
      rw [e1]
      simp only [Option.bind_some]
      obtain ⟨r, e2, h⟩ := spread_loop l hs.1 hl parents delays (by omega) (by omega) hdl ((List.replicate ((parents.length : Int)).toNat ([] : List Int)).set 0 x) (by simp) ⟨by rw [gl_set_eq (by simp; omega)]; exact hx, fun k a b => by omega⟩ (by omega) n hn
      rw [e2]
      rcases h with ⟨o, rfl, h1, h2⟩ | ⟨rfl, h⟩
      · exact ⟨_, rfl, .inl ⟨rfl, hs.1, ⟨by omega, by omega, by omega, h2⟩, h1⟩⟩
      · exact ⟨_, rfl, .inr ⟨rfl, fun q => h q.2.2.2.2⟩⟩
  · simp only [decide_eq_false hs, Bool.not_false, Bool.true_or, cond_true]
    exact ⟨_, rfl, .inr ⟨rfl, fun q => hs ⟨q.1, hl⟩⟩⟩
end Go.Proofs.YtbgpojdmdnkeaaaDoor
namespace Go.Proofs.YtbgpojdmdnkeaaaDoor
open Go.Abs
set_option linter.unusedVariables false
set_option linter.unusedSimpArgs false
set_option maxRecDepth 20000
set_option maxHeartbeats 4000000

def law43_small_L1 (delays_2 : (List (List Int))) : (Int) → Option (Lp (Int) (Lp (Unit) (Bool))) :=
 fun s_5 =>
  cond (decide (s_5 < (delays_2.length : Int)))
   (idx delays_2 s_5 fun x11 =>
   cond (decide (60 < (x11.length : Int)))
    (some (.stop (.stop false)))
    (some (.go (IntKind.i64.wrap (s_5 + 1)))))
   (some (.stop (.go ())))
def law43_small (n : Nat) (l_0 : (List S_api_Segment)) (parents_1 : (List Int)) (delays_2 : (List (List Int))) : Option (Bool) :=
 bindJ (S := Unit)
  (iter (law43_small_L1 delays_2) n 0)
 (fun _ =>
  some ((decide ((l_0.length : Int) ≤ 60) && decide ((parents_1.length : Int) ≤ 12)) && decide ((delays_2.length : Int) ≤ 12)))
theorem law43_small_ok (n : Nat) (l_0 : (List S_api_Segment)) (parents_1 : (List Int)) (delays_2 : (List (List Int))) (l_0v : Value) (parents_1v : Value) (delays_2v : Value) {r : Bool} (h : law43_small n l_0 parents_1 delays_2 = some r) :
  Meets Tryd.prog 16 [l_0v, parents_1v, delays_2v] [ro l_0v 20 (l_0.map S_api_Segment.enc), ro parents_1v 1 (parents_1.map (eInt .i64)), nro delays_2v NC_L_int_46 delays_2] (fun v G => v = .bool r ∧ G = []) := by
 refine fn_of_run Tryd.func16 rfl Tryd.ntmps16 rfl (fun w0 o0 => ?_)
 refine run_seq ?_
 refine run_region' ?_
 refine oy rfl rfl (y_assign rfl) ?_
 refine ops_nil ?_
 refine goes_code ?_
 obtain ⟨o1, h, ho2⟩ := bindJ_some h
 refine run_cut ((Unit) × (Unit)) (fun σ => [(0, l_0v), (1, parents_1v), (2, delays_2v)]) (fun σ => [ro l_0v 20 (l_0.map S_api_Segment.enc), ro parents_1v 1 (parents_1.map (eInt .i64)), nro delays_2v NC_L_int_46 delays_2]) (fun σ => o1 = .go σ.1) (fun L4 hL3 => ?_) ?_
 ·
  refine run_seq ?_
  refine run_region' ?_
  refine oy rfl rfl (y_move rfl) ?_
  refine oy rfl rfl (y_lenN 2 rfl Tryd.runUnderlying47 rfl rfl readsN_ro) ?_
  refine oy rfl rfl (y_move rfl) ?_
  refine ops_nil ?_
  refine goes_code ?_
  refine run_block ?_
  refine run_iter (step := law43_small_L1 delays_2) (n := n) (s0 := 0) h (G := Unit) () (fun σ γ => [(11, .int .i64 σ), (0, l_0v), (1, parents_1v), (2, delays_2v), (9, delays_2v), (10, .int .i64 (delays_2.length : Int))]) (fun σ γ => [ro l_0v 20 (l_0.map S_api_Segment.enc), ro parents_1v 1 (parents_1.map (eInt .i64)), nro delays_2v NC_L_int_46 delays_2]) [0, 1, 2] (qv6 rfl rfl rfl rfl rfl rfl) (by decide) rfl ?_
  rintro s_5 _ o6 h L9 hgo7 hstop8
  change Run _ _ _ (VF.of [(11, .int .i64 s_5), (0, l_0v), (1, parents_1v), (2, delays_2v), (9, delays_2v), (10, .int .i64 (delays_2.length : Int))]) [ro l_0v 20 (l_0.map S_api_Segment.enc), ro parents_1v 1 (parents_1.map (eInt .i64)), nro delays_2v NC_L_int_46 delays_2]
  refine run_seq ?_
  refine run_region' ?_
  refine oy rfl rfl (y_lss rfl rfl) ?_
  refine ops_nil ?_
  refine goes_code ?_
  refine run_seq ?_
  refine run_cond (decide (s_5 < (delays_2.length : Int))) rfl (fun hc10 => ?_) (fun hc10 => ?_)
  ·replace h := cond_t h hc10
   refine run_skip ?_
   refine goes_code ?_
   refine run_seq ?_
   refine run_block ?_
   refine run_seq ?_
   refine run_region' ?_
   obtain ⟨x11, hzx11, hlx11, hxx11, h⟩ := idx_some h
   refine oy rfl rfl (y_indexAddrN (kd := .i64) (i := s_5) 2 Tryd.runUnderlying47 Tryd.sizeOf46 rfl rfl rfl readsN_ro hzx11 hlx11) ?_
   refine ops_ex (exAt (C := NC_L_int_46) (i := s_5.toNat) 2 rfl hxx11) ?_
   rintro g12
   refine oy rfl rfl (y_load_at (n := s_5.toNat * 1) (j := 0) 3 Tryd.isAgg46 rfl rfl rfl) ?_
   refine oy rfl rfl (y_assign rfl) ?_
   refine ops_nil ?_
   refine goes_code ?_
   refine run_seq ?_
   refine run_region' ?_
   refine oy rfl rfl (y_move rfl) ?_
   refine oy rfl rfl ((y_len 4 rfl Tryd.runUnderlying46 rfl rfl reads_ro).to (v_len (eInt .i64) _)) ?_
   refine oy rfl rfl (y_gtr rfl rfl) ?_
   refine ops_nil ?_
   refine goes_code ?_
   refine run_cond (decide (60 < (x11.length : Int))) rfl (fun hc13 => ?_) (fun hc13 => ?_)
   ·replace h := cond_t h hc13
    refine run_seq ?_
    refine run_region' ?_
    refine oy rfl rfl (y_assign rfl) ?_
    refine ops_nil ?_
    refine goes_code ?_
    refine run_ret ?_
    obtain rfl := some_eq h
    obtain rfl := hstop8 _ rfl
    skip
    obtain rfl := after_stop ho2
    refine fin_slots [6] [.bool false] [] [] Tryd.results16 rfl (by decide) rfl ?_
    exact ⟨rfl, rfl⟩
   ·replace h := cond_f h hc13
    refine run_skip ?_
    refine goes_blk ?_
    refine goes_code ?_
    refine run_region' ?_
    refine oy rfl rfl (y_add rfl rfl) ?_
    refine oy rfl rfl (y_move rfl) ?_
    refine ops_nil ?_
    obtain rfl := some_eq h
    exact goes_iter hgo7 (IntKind.i64.wrap (s_5 + 1)) () [0, 1, 2] rfl (qv6 rfl rfl rfl rfl rfl rfl) (by decide) rfl
  ·replace h := cond_f h hc10
   refine run_exit _ rfl ?_
   obtain rfl := some_eq h
   obtain rfl := hstop8 _ rfl
   exact goes_cut hL3 ((), ()) [0, 1, 2] (qv3 rfl rfl rfl) (by decide) rfl rfl
 rintro ⟨_, _⟩ hj
 obtain rfl : o1 = _ := hj
 replace h := after_go ho2
 clear ho2
 change Run _ _ _ (VF.of [(0, l_0v), (1, parents_1v), (2, delays_2v)]) [ro l_0v 20 (l_0.map S_api_Segment.enc), ro parents_1v 1 (parents_1.map (eInt .i64)), nro delays_2v NC_L_int_46 delays_2]
 refine run_seq ?_
 refine run_region' ?_
 refine oy rfl rfl (y_move rfl) ?_
 refine oy rfl rfl ((y_len 0 rfl Tryd.runUnderlying22 rfl rfl reads_ro).to (v_len S_api_Segment.enc _)) ?_
 refine oy rfl rfl (y_leq rfl rfl) ?_
 refine oy rfl rfl (y_move rfl) ?_
 refine ops_cut 4 (Bool) (fun σ => [(2, delays_2v), (26, .bool σ)]) (fun σ => [nro delays_2v NC_L_int_46 delays_2]) (fun σ => σ = (decide ((l_0.length : Int) ≤ 60) && decide ((parents_1.length : Int) ≤ 12))) (fun L14 hL15 => ?_) ?_
 ·refine ops_split 22 (decide ((l_0.length : Int) ≤ 60)) rfl (fun hg16 => ?_) (fun hg16 => ?_)
  ·skip
   refine ops_y (wg 3 true 22 rfl rfl rfl rfl) rfl (y_move rfl) ?_
   refine ops_y (wg 3 true 22 rfl rfl rfl rfl) rfl ((y_len 1 rfl Tryd.runUnderlying46 rfl rfl reads_ro).to (v_len (eInt .i64) _)) ?_
   refine ops_y (wg 3 true 22 rfl rfl rfl rfl) rfl (y_leq rfl rfl) ?_
   refine oy rfl rfl (y_pick (b := true) rfl rfl) ?_
   refine ops_nil ?_
   exact goes_cut hL15 (decide ((parents_1.length : Int) ≤ 12)) [2] (qv2 rfl rfl) (by decide) rfl (by rw [hg16]; simp)
  ·skip
   refine ops_no 3 true 22 rfl rfl rfl rfl rfl ?_
   refine ops_no 3 true 22 rfl rfl rfl rfl rfl ?_
   refine ops_no 3 true 22 rfl rfl rfl rfl rfl ?_
   refine oy rfl rfl (y_pick (b := false) rfl rfl) ?_
   refine ops_nil ?_
   exact goes_cut hL15 false [2] (qv2 rfl rfl) (by decide) rfl (by rw [hg16]; simp)
 rintro _ rfl
 refine oy rfl rfl (y_move rfl) ?_
 refine ops_cut 4 (Bool) (fun σ => [(31, .bool σ)]) (fun σ => []) (fun σ => σ = ((decide ((l_0.length : Int) ≤ 60) && decide ((parents_1.length : Int) ≤ 12)) && decide ((delays_2.length : Int) ≤ 12))) (fun L17 hL18 => ?_) ?_
 ·refine ops_split 27 (decide ((l_0.length : Int) ≤ 60) && decide ((parents_1.length : Int) ≤ 12)) rfl (fun hg19 => ?_) (fun hg19 => ?_)
  ·skip
   refine ops_y (wg 8 true 27 rfl rfl rfl rfl) rfl (y_move rfl) ?_
   refine ops_y (wg 8 true 27 rfl rfl rfl rfl) rfl (y_lenN 0 rfl Tryd.runUnderlying47 rfl rfl readsN_ro) ?_
   refine ops_y (wg 8 true 27 rfl rfl rfl rfl) rfl (y_leq rfl rfl) ?_
   refine oy rfl rfl (y_pick (b := true) rfl rfl) ?_
   refine ops_nil ?_
   exact goes_cut hL18 (decide ((delays_2.length : Int) ≤ 12)) [] (qv1 rfl) (by decide) rfl (by rw [hg19]; simp)
  ·skip
   refine ops_no 8 true 27 rfl rfl rfl rfl rfl ?_
   refine ops_no 8 true 27 rfl rfl rfl rfl rfl ?_
   refine ops_no 8 true 27 rfl rfl rfl rfl rfl ?_
   refine oy rfl rfl (y_pick (b := false) rfl rfl) ?_
   refine ops_nil ?_
   exact goes_cut hL18 false [] (qv1 rfl) (by decide) rfl (by rw [hg19]; simp)
 rintro _ rfl
 refine oy rfl rfl (y_assign rfl) ?_
 refine ops_nil ?_
 refine goes_code ?_
 refine run_ret ?_
 obtain rfl := some_eq h
 refine fin_slots [6] [.bool ((decide ((l_0.length : Int) ≤ 60) && decide ((parents_1.length : Int) ≤ 12)) && decide ((delays_2.length : Int) ≤ 12))] [] [] Tryd.results16 rfl (by decide) rfl ?_
 exact ⟨rfl, rfl⟩

def law43_depths_L1 (parents_0 : (List Int)) : (Int × (List Int)) → Option (Lp (Int × (List Int)) (Lp ((List Int)) ((List Int)))) :=
 fun (k_8, x_9) =>
  cond (decide (k_8 < (parents_0.length : Int)))
   (idx parents_0 k_8 fun x15 =>
   idx x_9 x15 fun x16 =>
   idx x_9 k_8 fun x17 =>
   some (.go ((IntKind.i64.wrap (k_8 + 1)), (x_9.set k_8.toNat (IntKind.i64.wrap (x16 + 1))))))
   (some (.stop (.go x_9)))
def law43_depths (n : Nat) (parents_0 : (List Int)) : Option ((List Int)) :=
 need (0 ≤ (parents_0.length : Int) ∧ (parents_0.length : Int) ≤ 4294967296) (
 bindJ (S := (List Int))
  (iter (law43_depths_L1 parents_0) n (1, (List.replicate ((parents_0.length : Int)).toNat (0 : Int))))
 (fun x_3 =>
  some x_3))
theorem law43_depths_ok (n : Nat) (parents_0 : (List Int)) (parents_0v : Value) {r : (List Int)} (h : law43_depths n parents_0 = some r) :
  Meets Tryd.prog 18 [parents_0v] [ro parents_0v 1 (parents_0.map (eInt .i64))] (fun v G => ∃ v0, v = v0 ∧ G = [row v0 1 (r.map (eInt .i64))]) := by
 refine fn_of_run Tryd.func18 rfl Tryd.ntmps18 rfl (fun w0 o0 => ?_)
 refine run_seq ?_
 refine run_region' ?_
 refine oy rfl rfl (y_assign rfl) ?_
 refine ops_nil ?_
 refine goes_code ?_
 refine run_seq ?_
 refine run_region' ?_
 refine oy rfl rfl (y_move rfl) ?_
 refine oy rfl rfl ((y_len 0 rfl Tryd.runUnderlying46 rfl rfl reads_ro).to (v_len (eInt .i64) _)) ?_
 obtain ⟨hm2, h⟩ := need_some h
 refine ot rfl rfl (t_makeSlice (es := 1) Tryd.runUnderlying46 Tryd.typeInfo3 rfl Tryd.zeroValue3 rfl (by decide) rfl rfl hm2.1 hm2.2 (by decide)) ?_
 rintro v1 _ rfl
 refine ops_turn (retell 1 (g := row v1 1 ((List.replicate ((parents_0.length : Int)).toNat (0 : Int)).map (eInt .i64))) rfl (congrArg (row _ _) (map_rep rfl))) ?_
 refine oy rfl rfl (y_assign rfl) ?_
 refine ops_nil ?_
 refine goes_code ?_
 obtain ⟨o4, h, ho5⟩ := bindJ_some h
 refine run_cut (((List Int)) × (Unit)) (fun σ => [(3, v1)]) (fun σ => [row v1 1 (σ.1.map (eInt .i64))]) (fun σ => o4 = .go σ.1) (fun L7 hL6 => ?_) ?_
 ·
  refine run_seq ?_
  refine run_region' ?_
  refine oy rfl rfl (y_assign rfl) ?_
  refine ops_nil ?_
  refine goes_code ?_
  refine run_block ?_
  refine run_iter (step := law43_depths_L1 parents_0) (n := n) (s0 := (1, (List.replicate ((parents_0.length : Int)).toNat (0 : Int)))) h (G := Unit) () (fun σ γ => [(4, .int .i64 σ.1), (0, parents_0v), (3, v1)]) (fun σ γ => [ro parents_0v 1 (parents_0.map (eInt .i64)), row v1 1 (σ.2.map (eInt .i64))]) [0, 1] (qv3 rfl rfl rfl) (by decide) rfl ?_
  rintro ⟨k_8, x_9⟩ _ o10 h L13 hgo11 hstop12
  change Run _ _ _ (VF.of [(4, .int .i64 k_8), (0, parents_0v), (3, v1)]) [ro parents_0v 1 (parents_0.map (eInt .i64)), row v1 1 (x_9.map (eInt .i64))]
  refine run_seq ?_
  refine run_seq ?_
  refine run_region' ?_
  refine oy rfl rfl (y_move rfl) ?_
  refine oy rfl rfl (y_move rfl) ?_
  refine oy rfl rfl ((y_len 0 rfl Tryd.runUnderlying46 rfl rfl reads_ro).to (v_len (eInt .i64) _)) ?_
  refine oy rfl rfl (y_lss rfl rfl) ?_
  refine ops_nil ?_
  refine goes_code ?_
  refine run_cond (decide (k_8 < (parents_0.length : Int))) rfl (fun hc14 => ?_) (fun hc14 => ?_)
  ·replace h := cond_t h hc14
   refine run_skip ?_
   refine goes_code ?_
   refine run_seq ?_
   refine run_block ?_
   refine run_region' ?_
   refine oy rfl rfl (y_move rfl) ?_
   refine oy rfl rfl (y_move rfl) ?_
   refine oy rfl rfl (y_move rfl) ?_
   refine oy rfl rfl (y_move rfl) ?_
   refine oy rfl rfl (y_move rfl) ?_
   obtain ⟨x15, hzx15, hlx15, hxx15, h⟩ := idx_some h
   refine oy rfl rfl (y_indexAddrI (kd := .i64) (i := k_8) 0 Tryd.runUnderlying46 Tryd.sizeOf3 rfl rfl rfl reads_ro hzx15 (map_lt hlx15)) ?_
   refine oy rfl rfl (y_load_elem (i := k_8.toNat) 0 Tryd.isAgg3 rfl rfl reads_ro (map_get hxx15)) ?_
   obtain ⟨x16, hzx16, hlx16, hxx16, h⟩ := idx_some h
   refine oy rfl rfl (y_indexAddrI (kd := .i64) (i := x15) 1 Tryd.runUnderlying46 Tryd.sizeOf3 rfl rfl rfl reads_row hzx16 (map_lt hlx16)) ?_
   refine oy rfl rfl (y_load_elem (i := x15.toNat) 1 Tryd.isAgg3 rfl rfl reads_row (map_get hxx16)) ?_
   refine oy rfl rfl (y_add rfl rfl) ?_
   obtain ⟨x17, hzx17, hlx17, hxx17, h⟩ := idx_some h
   refine oy rfl rfl (y_indexAddrI (kd := .i64) (i := k_8) 1 Tryd.runUnderlying46 Tryd.sizeOf3 rfl rfl rfl reads_row hzx17 (map_lt hlx17)) ?_
   refine ot rfl rfl (t_store_row (i := k_8.toNat) (j := 0) (c := (eInt .i64) x17) 1 Tryd.sizeOf3 rfl rfl rfl rfl (map_get hxx17) (by decide) (by simp [Value.cells, Value.oneCell', boxP])) ?_
   rintro _ _ ⟨rfl, rfl⟩
   obtain hxx18 : ((x_9.set k_8.toNat (IntKind.i64.wrap (x16 + 1))) : List Int)[k_8.toNat]? = some (IntKind.i64.wrap (x16 + 1)) := set_at hlx17
   obtain hlx18 : k_8.toNat < ((x_9.set k_8.toNat (IntKind.i64.wrap (x16 + 1))) : List Int).length := set_lt hlx17
   obtain hzx18 : (0 : Int) ≤ k_8 := id hzx17
   refine ops_turn (retell 1 (g := row v1 1 ((x_9.set k_8.toNat (IntKind.i64.wrap (x16 + 1))).map (eInt .i64))) rfl (congrArg (row _ _) (map_set_at rfl))) ?_
   refine ops_nil ?_
   refine goes_blk ?_
   refine goes_code ?_
   refine run_weak [(4, .int .i64 k_8), (0, parents_0v), (3, v1)] [0, 1] [ro parents_0v 1 (parents_0.map (eInt .i64)), row v1 1 ((x_9.set k_8.toNat (IntKind.i64.wrap (x16 + 1))).map (eInt .i64))] (qv3 rfl rfl rfl) (by decide) rfl ?_
   refine run_region' ?_
   refine oy rfl rfl (y_move rfl) ?_
   refine oy rfl rfl (y_add rfl rfl) ?_
   refine oy rfl rfl (y_assign rfl) ?_
   refine ops_nil ?_
   obtain rfl := some_eq h
   exact goes_iter hgo11 ((IntKind.i64.wrap (k_8 + 1)), (x_9.set k_8.toNat (IntKind.i64.wrap (x16 + 1)))) () [0, 1] rfl (qv3 rfl rfl rfl) (by decide) rfl
  ·replace h := cond_f h hc14
   refine run_exit _ rfl ?_
   obtain rfl := some_eq h
   obtain rfl := hstop12 _ rfl
   exact goes_cut hL6 (x_9, ()) [1] (qv1 rfl) (by decide) rfl rfl
 rintro ⟨x_3, _⟩ hj
 obtain rfl : o4 = _ := hj
 replace h := after_go ho5
 clear ho5
 change Run _ _ _ (VF.of [(3, v1)]) [row v1 1 (x_3.map (eInt .i64))]
 refine run_seq ?_
 refine run_region' ?_
 refine oy rfl rfl (y_move rfl) ?_
 refine oy rfl rfl (y_assign rfl) ?_
 refine ops_nil ?_
 refine goes_code ?_
 refine run_ret ?_
 obtain rfl := some_eq h
 refine fin_slots [2] [v1] [0] [row v1 1 (x_3.map (eInt .i64))] Tryd.results18 rfl (by decide) rfl ?_
 exact ⟨_, rfl, rfl⟩

end Go.Proofs.YtbgpojdmdnkeaaaDoor
namespace Go.Proofs.YtbgpojdmdnkeaaaDoor
open Go.Abs
set_option linter.unusedSimpArgs false
set_option linter.unusedVariables false
/-- how many have arrived at an instant -/
def cnt (a : List Int) (t : Int) : Nat := (a.takeWhile fun x => decide (x ≤ t)).length
theorem cnt_le (a : List Int) (t : Int) : cnt a t ≤ a.length := List.Sublist.length_le (List.takeWhile_sublist _)
theorem cnt_cons (x : Int) (r : List Int) (t : Int) : cnt (x :: r) t = if x ≤ t then cnt r t + 1 else 0 := by
  unfold cnt
  rw [List.takeWhile_cons]
  by_cases h : x ≤ t <;> simp [h]
theorem cnt_lt : ∀ (a : List Int) (t : Int) (i : Nat), i < cnt a t → gi a i ≤ t
  | [], t, i, h => by simp [cnt] at h
  | x :: r, t, i, h => by
    rw [cnt_cons] at h
    split at h
    · rename_i hx
      cases i with
      | zero => exact hx
      | succ i => exact cnt_lt r t i (by omega)
    · omega
theorem cnt_at : ∀ (a : List Int) (t : Int), cnt a t < a.length → t < gi a (cnt a t)
  | [], t, h => by simp at h
  | x :: r, t, h => by
    rw [cnt_cons] at h ⊢
    split
    · rename_i hx
      rw [if_pos hx] at h
      exact cnt_at r t (by simpa using h)
    · rename_i hx
      show t < x
      omega
theorem seen_idx (a : List Int) (ha : a.length ≤ 1000000) (t : Int) (n : Nat) (hn : a.length < n) : slices_IndexFunc_int_int_44_v1 n a t = some (if cnt a t = a.length then -1 else ((cnt a t : Nat) : Int)) := by
  unfold slices_IndexFunc_int_int_44_v1
  have key := iter_fold (l := a) (step := slices_IndexFunc_int_int_44_v1_L1 a t) (fun i (_ : Nat) => (i : Int)) (fun (i : Nat) d => cond (decide (t < d)) (.stop (.stop (i : Int))) (.go (i + 1))) (fun _ => .go ()) (fun i j => i = j) (by
    rintro i j x rfl hx
    obtain ⟨hi, rfl⟩ := List.getElem?_eq_some_iff.1 hx
    unfold slices_IndexFunc_int_int_44_v1_L1 playlist_Seen_1_45
    have e : decide ((i : Int) < (a.length : Int)) = true := decide_eq_true (by omega)
    simp only [e, cond_true]
    rw [idx_get' hi]
    simp only [obind, Option.bind_some]
    cases decide (t < a[i])
    · simp only [cond_false, mapS_go]
      rw [w64 (by omega) (by omega)]
      exact ⟨rfl, fun s' hs => by cases hs; rfl⟩
    · exact ⟨rfl, fun s' hs => by cases hs⟩) (by
    intro s hs
    unfold slices_IndexFunc_int_int_44_v1_L1
    simp) n 0 0 rfl (Nat.zero_le _) (by omega)
  have e : iter (slices_IndexFunc_int_int_44_v1_L1 a t) n 0 = _ := key
  rw [e, List.drop_zero]
  have gen : ∀ (l : List Int) (k : Nat), foldL (fun (i : Nat) d => cond (decide (t < d)) (Lp.stop (.stop (i : Int))) (.go (i + 1))) (fun _ => (.go () : Lp Unit Int)) k l = if cnt l t = l.length then .go () else .stop ((k + cnt l t : Nat) : Int) := by
    intro l
    induction l with
    | nil => intro k; rfl
    | cons x r ih =>
      intro k
      unfold foldL
      rw [cnt_cons]
      by_cases h : x ≤ t
      · rw [if_pos h, decide_eq_false (by omega), cond_false]
        simp only
        rw [ih]
        by_cases h' : cnt r t = r.length
        · rw [if_pos h', if_pos (by simp [h'])]
        · rw [if_neg h', if_neg (by simp; omega)]
          congr 2
          omega
      · rw [if_neg h, decide_eq_true (by omega), cond_true, if_neg (by simp)]
        rfl
  rw [gen a 0]
  by_cases h : cnt a t = a.length
  · simp only [h, if_true, bindJ_go]
  · simp only [h, if_false, bindJ_stop, Nat.zero_add]
theorem cut_id (p : S_api_Playlist) (w : Int) (hw0 : 0 ≤ w) (hw : w ≤ 1000000) (hl : p.L.length ≤ 1000000) (hf : -4611686018427387904 ≤ p.First ∧ p.First ≤ 4611686018427387904) :
    playlist_cut p w = some ⟨p.First + max 0 ((p.L.length : Int) - w), p.L.drop (max 0 ((p.L.length : Int) - w)).toNat, p.Done⟩ := by
  unfold playlist_cut
  rw [w64 (x := (p.L.length : Int) - w) (by omega) (by omega), need_pos (by omega), w64 (by omega) (by omega)]
theorem clone_eq (l : List S_api_Segment) (h : l.length ≤ 4294967296) : slices_Clone_weirgate_api_Segment_weirgate_api_Segment_28 l = some l := by
  unfold slices_Clone_weirgate_api_Segment_weirgate_api_Segment_28
  rw [need_pos (by simpa using h)]; rfl
/-- what is seen, before it is cut -/
def seenP (l : List S_api_Segment) (a : List Int) (t : Int) : S_api_Playlist := ⟨((l[0]?).map (·.Num)).getD 0, l.take (cnt a t), false⟩
theorem seen_eq {l : List S_api_Segment} (hs : Strm l) (hl : l.length ≤ 1000) (a : List Int) (ha : a.length = l.length) (t w : Int) (hw0 : 0 ≤ w) (hw : w ≤ 1000000) (n : Nat) (hn : 1000 < n) : playlist_Seen n l a t w = playlist_cut (seenP l a t) w := by
  unfold playlist_Seen
  rw [seen_idx a (by omega) t n (by omega)]
  have hc := cnt_le a t
  simp only [obind, Option.bind_some]
  have e1 : bindJ (S := Int) (R := S_api_Playlist) (cond (decide ((if cnt a t = a.length then -1 else ((cnt a t : Nat) : Int)) < 0)) (some (.go (l.length : Int))) (some (.go (if cnt a t = a.length then -1 else ((cnt a t : Nat) : Int))))) = fun k => k ((cnt a t : Nat) : Int) := by
    funext k
    by_cases h : cnt a t = a.length
    · simp only [h, if_true, ha]; rfl
    · simp only [h, if_false]
      rw [decide_eq_false (by omega)]; rfl
  rw [e1]
  simp only
  have hb : -4611686018427387904 ≤ (seenP l a t).First ∧ (seenP l a t).First ≤ 4611686018427387904 := by
    unfold seenP
    by_cases h0 : 0 < l.length
    · have := hs.1 0 h0
      unfold okSeg at this
      simp only [List.getElem?_eq_getElem h0, Option.map_some, Option.getD_some]; omega
    · rw [List.getElem?_eq_none (by omega)]; simp
  have hcut := cut_id (seenP l a t) w hw0 hw (by unfold seenP; simp; omega) hb
  by_cases h0 : 0 < l.length
  · have e : decide ((0 : Int) < (l.length : Int)) = true := decide_eq_true (by omega)
    simp only [e, cond_true]
    rw [show (0 : Int) = ((0 : Nat) : Int) from rfl, idx_get' h0, need_pos (by omega), clone_eq _ (by simp; omega)]
    simp only [Option.bind_some, bindJ_go, Int.toNat_natCast]
    have : (⟨l[0].Num, l.take (cnt a t), false⟩ : S_api_Playlist) = seenP l a t := by unfold seenP; rw [List.getElem?_eq_getElem h0]; rfl
    rw [this, hcut]; rfl
  · have e : decide ((0 : Int) < (l.length : Int)) = false := decide_eq_false (by omega)
    simp only [e, cond_false, bindJ_go]
    have : (⟨0, [], false⟩ : S_api_Playlist) = seenP l a t := by
      obtain rfl : l = [] := List.length_eq_zero_iff.1 (by omega)
      unfold seenP
      simp
    rw [this, hcut]; rfl
theorem seen_short {l : List S_api_Segment} (hs : Strm l) (hl : l.length ≤ 60) (a : List Int) (ha : a.length = l.length) (t : Int) (n : Nat) (hn : 1000 < n) : playlist_Seen n l a t 100 = some (seenP l a t) := by
  rw [seen_eq hs (by omega) a ha t 100 (by omega) (by omega) n hn]
  have h0 : (seenP l a t).L.length ≤ 60 := by unfold seenP; simp; omega
  rw [cut_id _ _ (by omega) (by omega) (by omega) (by
    unfold seenP
    by_cases h0 : 0 < l.length
    · have := hs.1 0 h0
      unfold okSeg at this
      simp only [List.getElem?_eq_getElem h0, Option.map_some, Option.getD_some]; omega
    · rw [List.getElem?_eq_none (by omega)]; simp)]
  rw [show max 0 (((seenP l a t).L.length : Int) - 100) = 0 by omega]
  simp
/-! the depths of the places -/
def Dep (parents : List Int) (d : List Int) (K : Nat) : Prop := gi d 0 = 0 ∧ ∀ k, 1 ≤ k → k < K → gi d k = gi d (gi parents k).toNat + 1
theorem dep_bounds {parents d : List Int} {K : Nat} (hT : ∀ k, 1 ≤ k → k < K → 0 ≤ gi parents k ∧ gi parents k < k) (h : Dep parents d K) : ∀ k, k < K → 0 ≤ gi d k ∧ gi d k ≤ k := by
  intro k
  induction k using Nat.strongRecOn with
  | _ k ih =>
    intro hk
    by_cases h0 : k = 0
    · subst h0; rw [h.1]; omega
    · have := hT k (by omega) hk
      have h1 := h.2 k (by omega) hk
      have := ih (gi parents k).toNat (by omega) (by omega)
      omega
theorem depths_eq (parents : List Int) (hp : 1 ≤ parents.length) (hl : parents.length ≤ 100) (hT : ∀ k, 1 ≤ k → k < parents.length → 0 ≤ gi parents k ∧ gi parents k < k) (n : Nat) (hn : 100 < n) :
    ∃ d, law43_depths n parents = some d ∧ d.length = parents.length ∧ Dep parents d parents.length := by
  unfold law43_depths
  rw [need_pos (by omega)]
  obtain ⟨r, e, d, h1, h2, h3⟩ := iter_inv (step := law43_depths_L1 parents) (fun s => ∃ (k : Nat) (x : List Int), s = ((k : Int), x) ∧ 1 ≤ k ∧ k ≤ parents.length ∧ x.length = parents.length ∧ Dep parents x k) (fun s => parents.length - s.1.toNat) (fun r => ∃ d, r = .go d ∧ d.length = parents.length ∧ Dep parents d parents.length) (by
    rintro s ⟨k, x, rfl, hk1, hk, hx, hD⟩
    unfold law43_depths_L1
    by_cases hlt : k < parents.length
    · have e : decide ((k : Int) < (parents.length : Int)) = true := decide_eq_true (by omega)
      simp only [e, cond_true]
      have hp := hT k hk1 hlt
      have hb := dep_bounds (fun k a b => hT k a (by omega)) hD (gi parents k).toNat (by omega)
      rw [idx_get (gi_at hlt)]
      have e2 : ∀ kk : Int → Option (Lp (Int × List Int) (Lp (List Int) (List Int))), idx x (gi parents k) kk = kk (gi x (gi parents k).toNat) := fun kk => by
        have := idx_get (gi_at (l := x) (i := (gi parents k).toNat) (by omega)) kk
        rwa [show (((gi parents k).toNat : Nat) : Int) = gi parents k by omega] at this
      rw [e2, idx_get (gi_at (l := x) (i := k) (by omega))]
      left
      refine ⟨(((k + 1 : Nat) : Int), x.set k (gi x (gi parents k).toNat + 1)), ?_, ⟨k + 1, _, rfl, by omega, by omega, by simp [hx], ?_, fun j a b => ?_⟩, by simp; omega⟩
      · rw [w64 (x := (k : Int) + 1) (by omega) (by omega), w64 (by omega) (by omega)]; rfl
      · rw [gi_set_ne (by omega)]; exact hD.1
      · have := hT j a (by omega)
        rw [gi_set_ne (i := k) (j := (gi parents j).toNat) (by omega)]
        by_cases ej : j = k
        · subst ej; rw [gi_set_eq (by omega)]
        · rw [gi_set_ne (by omega)]; exact hD.2 j a (by omega)
    · have e : decide ((k : Int) < (parents.length : Int)) = false := decide_eq_false (by omega)
      obtain rfl : k = parents.length := by omega
      right
      exact ⟨_, by simp only [e, cond_false], x, rfl, hx, hD⟩) n (1, List.replicate ((parents.length : Int)).toNat (0 : Int)) ⟨1, _, rfl, by omega, hp, by simp, by simp [gi]; rw [List.getElem?_replicate]; split <;> rfl, fun k a b => by omega⟩ (by simp; omega)
  refine ⟨d, ?_, h2, h3⟩
  rw [e, h1]; rfl
/-- the greatest delay bounds how far a place is behind the source -/
theorem spr_near {l : List S_api_Segment} (hs : Strm l) {parents d : List Int} {delays out : List (List Int)} {K : Nat} {hop : Int} (hT : ∀ k, 1 ≤ k → k < K → TreeAt l.length parents delays k) (hhop : ∀ k, 1 ≤ k → k < K → ∀ x ∈ gl delays k, x ≤ hop)
    (h0 : 0 ≤ hop) (h : SprTo l parents delays out K) (hD : Dep parents d K) : ∀ k, k < K → ∀ i, i < l.length → sEnd l i ≤ gi (gl out k) i ∧ gi (gl out k) i ≤ sEnd l i + gi d k * hop := by
  have mono : ∀ i, i + 1 < l.length → sEnd l i ≤ sEnd l (i + 1) := by
    intro i hi
    rw [sEnd_at (show i < l.length by omega), sEnd_at hi]
    have h1 := (hs.2 i hi).2
    have h2 := hs.1 (i + 1) hi
    unfold okSeg at h2
    omega
  intro k
  induction k using Nat.strongRecOn with
  | _ k ih =>
    intro hk
    by_cases hz : k = 0
    · subst hz
      intro i
      rw [hD.1, Int.zero_mul]
      induction i with
      | zero => intro hi; rw [h.1.2.1 hi]; omega
      | succ i ihi => intro hi; have := ihi (by omega); have h2 := h.1.2.2 i hi; have := mono i hi; omega
    · obtain ⟨t1, t2, t3, t4⟩ := hT k (by omega) hk
      have hp := h.2 k (by omega) hk
      have hd := hD.2 k (by omega) hk
      have hmul : gi d k * hop = gi d (gi parents k).toNat * hop + hop := by rw [hd, Int.add_mul, Int.one_mul]
      have step : ∀ i, i < l.length → sEnd l i ≤ gi (gl out (gi parents k).toNat) i + gi (gl delays k) i ∧ gi (gl out (gi parents k).toNat) i + gi (gl delays k) i ≤ sEnd l i + gi d k * hop := by
        intro i hi
        have h1 := ih (gi parents k).toNat (by omega) (by omega) i hi
        have hm : gi (gl delays k) i ∈ gl delays k := by rw [gi_get (by omega)]; exact List.getElem_mem _
        have h2 := t4 _ hm
        have h3 := hhop k (by omega) hk _ hm
        omega
      intro i
      induction i with
      | zero => intro hi; rw [hp.2.1 hi]; exact step 0 hi
      | succ i ihi => intro hi; have a := ihi (by omega); have b : gi (gl out k) (i + 1) = max (gi (gl out (gi parents k).toNat) (i + 1) + gi (gl delays k) (i + 1)) (gi (gl out k) i) := hp.2.2 i hi; have c := mono i hi; have e := step (i + 1) hi; omega
end Go.Proofs.YtbgpojdmdnkeaaaDoor
namespace Go.Proofs.YtbgpojdmdnkeaaaDoor
open Go.Abs
set_option linter.unusedVariables false
set_option linter.unusedSimpArgs false
set_option maxRecDepth 20000
set_option maxHeartbeats 4000000

def law43_PlaylistLagIsBounded_L2 (x36 : (List Int)) : (Int × Int) → Option (Lp (Int × Int) (Lp (Int) (Lp (Int × Int) (Lp (Int) (Bool))))) :=
 fun (hop_38, s_39) =>
  cond (decide (s_39 < (x36.length : Int)))
   (idx x36 s_39 fun x45 =>
   some (.go ((max hop_38 x45), (IntKind.i64.wrap (s_39 + 1)))))
   (some (.stop (.go hop_38)))
def law43_PlaylistLagIsBounded_L1 (n : Nat) (parents_1 : (List Int)) (delays_2 : (List (List Int))) : (Int × Int) → Option (Lp (Int × Int) (Lp (Int) (Bool))) :=
 fun (hop_24, k_25) =>
  cond (decide (k_25 < (parents_1.length : Int)))
   (bindJ (S := Int)
    (idx delays_2 k_25 fun x36 =>
    iter (law43_PlaylistLagIsBounded_L2 x36) n (hop_24, 0))
   (fun hop_31 =>
    some (.go (hop_31, (IntKind.i64.wrap (k_25 + 1))))))
   (some (.stop (.go hop_24)))
def law43_PlaylistLagIsBounded_L3 (l_0 : (List S_api_Segment)) : (Int × Int) → Option (Lp (Int × Int) (Lp (Int) (Bool))) :=
 fun (longest_51, s_52) =>
  cond (decide (s_52 < (l_0.length : Int)))
   (idx l_0 s_52 fun x58 =>
   some (.go ((max longest_51 x58.Len), (IntKind.i64.wrap (s_52 + 1)))))
   (some (.stop (.go longest_51)))
def law43_PlaylistLagIsBounded_L4 (n : Nat) (l_0 : (List S_api_Segment)) (t_3 : Int) (r9 : (List (List Int)) × Int) (hop_19 : Int) (longest_46 : Int) (r67 : (List Int)) : (Int) → Option (Lp (Int) (Lp (Unit) (Bool))) :=
 fun s_70 =>
  cond (decide (s_70 < (r67.length : Int)))
   (bindJ (S := Unit)
    (idx r67 s_70 fun x80 =>
    idx l_0 0 fun x81 =>
    bindJ (S := Bool)
     (cond (decide (t_3 < (IntKind.i64.wrap ((IntKind.i64.wrap (x81.Begin + x81.Len)) + (IntKind.i64.wrap (x80 * hop_19))))))
      (some (.go true))
      (idx l_0 (IntKind.i64.wrap ((l_0.length : Int) - 1)) fun x88 =>
      some (.go (decide ((IntKind.i64.wrap (x88.Begin + x88.Len)) < t_3)))))
    (fun b82 =>
     cond b82
      (some (.go ()))
      (idx r9.1 s_70 fun x90 =>
      obind (playlist_Seen n l_0 x90 t_3 100) fun r92 =>
      obind (playlist_Edge r92) fun r95 =>
      bindJ (S := Bool)
       (cond (decide (t_3 < r95))
        (some (.go true))
        (obind (playlist_Lag x80 hop_19 longest_46) fun r103 =>
        some (.go (decide (r95 ≤ (IntKind.i64.wrap (t_3 - r103)))))))
      (fun b97 =>
       cond b97
        (some (.stop (.stop (.stop false))))
        (some (.go ()))))))
   (fun _ =>
    some (.go (IntKind.i64.wrap (s_70 + 1)))))
   (some (.stop (.go ())))
def law43_PlaylistLagIsBounded (n : Nat) (l_0 : (List S_api_Segment)) (parents_1 : (List Int)) (delays_2 : (List (List Int))) (t_3 : Int) : Option (Bool) :=
 obind (law43_small n l_0 parents_1 delays_2) fun r1 =>
 cond ((!r1) || decide ((l_0.length : Int) = 0))
  (obind (law43_sanity n) fun r7 =>
  some r7)
  (obind (playlist_Spread n l_0 parents_1 delays_2) fun r9 =>
  cond (decide (r9.2 ≠ 0))
   (obind (law43_sanity n) fun r13 =>
   some (r13 && decide ((r9.1.length : Int) = 0)))
   (cond (decide ((r9.1.length : Int) ≠ (parents_1.length : Int)))
    (some false)
    (bindJ (S := Int)
     (iter (law43_PlaylistLagIsBounded_L1 n parents_1 delays_2) n (0, 1))
    (fun hop_19 =>
     bindJ (S := Int)
      (iter (law43_PlaylistLagIsBounded_L3 l_0) n (0, 0))
     (fun longest_46 =>
      cond (decide (1073741824 < hop_19))
       (obind (law43_sanity n) fun r61 =>
       some r61)
       (bindJ (S := Unit)
        (obind (law43_depths n parents_1) fun r67 =>
        iter (law43_PlaylistLagIsBounded_L4 n l_0 t_3 r9 hop_19 longest_46 r67) n 0)
       (fun _ =>
        obind (law43_sanity n) fun r106 =>
        some r106)))))))
theorem law43_PlaylistLagIsBounded_ok (n : Nat) (l_0 : (List S_api_Segment)) (parents_1 : (List Int)) (delays_2 : (List (List Int))) (t_3 : Int) (l_0v : Value) (parents_1v : Value) (delays_2v : Value) {r : Bool} (h : law43_PlaylistLagIsBounded n l_0 parents_1 delays_2 t_3 = some r) :
  Meets Tryd.prog 5 [l_0v, parents_1v, delays_2v, .int .i64 t_3] [ro l_0v 20 (l_0.map S_api_Segment.enc), ro parents_1v 1 (parents_1.map (eInt .i64)), nro delays_2v NC_L_int_46 delays_2, globA] (fun v G => v = .bool r ∧ G = []) := by
 refine fn_of_run Tryd.func5 rfl Tryd.ntmps5 rfl (fun w0 o0 => ?_)
 refine run_seq ?_
 refine run_region' ?_
 refine oy rfl rfl (y_assign rfl) ?_
 refine ops_nil ?_
 refine goes_code ?_
 refine run_seq ?_
 refine run_seq ?_
 refine run_region' ?_
 refine oy rfl rfl (y_move rfl) ?_
 refine oy rfl rfl (y_move rfl) ?_
 refine oy rfl rfl (y_move rfl) ?_
 obtain ⟨r1, hr2, h⟩ := obind_some h
 refine ot rfl rfl (t_callx (vs := [l_0v, parents_1v, delays_2v]) (cs := []) [(0, 0), (1, 0), (2, 0)] rfl Tryd.call16 rfl (law43_small_ok n l_0 parents_1 delays_2 l_0v parents_1v delays_2v hr2) (showsX_view 0 rfl views_ro (showsX_view 1 rfl views_ro (showsX_view 2 rfl views_nro showsX_nil))) rfl (.inl rfl)) ?_
 rintro _ _ ⟨_, ⟨rfl, rfl⟩, rfl⟩
 refine oy rfl rfl (y_not rfl) ?_
 refine oy rfl rfl (y_move rfl) ?_
 refine ops_cut 4 (Bool) (fun σ => [(0, l_0v), (1, parents_1v), (2, delays_2v), (3, .int .i64 t_3), (30, .bool σ)]) (fun σ => [ro l_0v 20 (l_0.map S_api_Segment.enc), ro parents_1v 1 (parents_1.map (eInt .i64)), nro delays_2v NC_L_int_46 delays_2, globA]) (fun σ => σ = ((!r1) || decide ((l_0.length : Int) = 0))) (fun L3 hL4 => ?_) ?_
 ·refine ops_split 26 (!r1) rfl (fun hg5 => ?_) (fun hg5 => ?_)
  ·skip
   refine ops_no 5 false 26 rfl rfl rfl rfl rfl ?_
   refine ops_no 5 false 26 rfl rfl rfl rfl rfl ?_
   refine ops_no 5 false 26 rfl rfl rfl rfl rfl ?_
   refine oy rfl rfl (y_pick (b := true) rfl rfl) ?_
   refine ops_nil ?_
   exact goes_cut hL4 true [0, 1, 2, 3] (qv5 rfl rfl rfl rfl rfl) (by decide) rfl (by rw [hg5]; simp)
  ·skip
   refine ops_y (wg 5 false 26 rfl rfl rfl rfl) rfl (y_move rfl) ?_
   refine ops_y (wg 5 false 26 rfl rfl rfl rfl) rfl ((y_len 0 rfl Tryd.runUnderlying22 rfl rfl reads_ro).to (v_len S_api_Segment.enc _)) ?_
   refine ops_y (wg 5 false 26 rfl rfl rfl rfl) rfl (y_eql rfl rfl) ?_
   refine oy rfl rfl (y_pick (b := false) rfl rfl) ?_
   refine ops_nil ?_
   exact goes_cut hL4 (decide ((l_0.length : Int) = 0)) [0, 1, 2, 3] (qv5 rfl rfl rfl rfl rfl) (by decide) rfl (by rw [hg5]; simp)
 rintro _ rfl
 refine ops_nil ?_
 refine goes_code ?_
 refine run_cond ((!r1) || decide ((l_0.length : Int) = 0)) rfl (fun hc6 => ?_) (fun hc6 => ?_)
 ·replace h := cond_t h hc6
  refine run_seq ?_
  refine run_region' ?_
  obtain ⟨r7, hr8, h⟩ := obind_some h
  refine ot rfl rfl (t_callx (vs := []) (cs := []) [(3, 0)] rfl Tryd.call8 rfl (law43_sanity_ok n   hr8) (showsX_view 3 rfl views_glob showsX_nil) rfl (.inl rfl)) ?_
  rintro _ _ ⟨_, ⟨rfl, rfl⟩, rfl⟩
  refine oy rfl rfl (y_assign rfl) ?_
  refine ops_nil ?_
  refine goes_code ?_
  refine run_ret ?_
  obtain rfl := some_eq h
  refine fin_slots [8] [.bool r7] [] [] Tryd.results5 rfl (by decide) rfl ?_
  exact ⟨rfl, rfl⟩
 ·replace h := cond_f h hc6
  refine run_skip ?_
  refine goes_code ?_
  refine run_seq ?_
  refine run_region' ?_
  refine oy rfl rfl (y_move rfl) ?_
  refine oy rfl rfl (y_move rfl) ?_
  refine oy rfl rfl (y_move rfl) ?_
  obtain ⟨r9, hr10, h⟩ := obind_some h
  refine ot rfl rfl (t_callx (vs := [l_0v, parents_1v, delays_2v]) (cs := []) [(0, 0), (1, 0), (2, 0)] rfl Tryd.call17 rfl (playlist_Spread_ok n l_0 parents_1 delays_2 l_0v parents_1v delays_2v hr10) (showsX_view 0 rfl views_ro (showsX_view 1 rfl views_ro (showsX_view 2 rfl views_nro showsX_nil))) rfl (.inl rfl)) ?_
  rintro _ _ ⟨_, ⟨v11, rfl, rfl⟩, rfl⟩
  refine oy rfl rfl (y_move rfl) ?_
  refine oy rfl rfl (y_extract rfl rfl) ?_
  refine oy rfl rfl (y_extract rfl rfl) ?_
  refine oy rfl rfl (y_assign rfl) ?_
  refine oy rfl rfl (y_assign rfl) ?_
  refine ops_nil ?_
  refine goes_code ?_
  refine run_seq ?_
  refine run_seq ?_
  refine run_weak [(0, l_0v), (1, parents_1v), (2, delays_2v), (3, .int .i64 t_3), (9, v11), (10, .int .i64 r9.2)] [0, 1, 2, 3, 4] [ro l_0v 20 (l_0.map S_api_Segment.enc), ro parents_1v 1 (parents_1.map (eInt .i64)), nro delays_2v NC_L_int_46 delays_2, globA, nrow v11 NC_L_int_46 r9.1] (qv6 rfl rfl rfl rfl rfl rfl) (by decide) rfl ?_
  refine run_region' ?_
  refine oy rfl rfl (y_move rfl) ?_
  refine oy rfl rfl (y_neq rfl rfl) ?_
  refine ops_nil ?_
  refine goes_code ?_
  refine run_cond (decide (r9.2 ≠ 0)) rfl (fun hc12 => ?_) (fun hc12 => ?_)
  ·replace h := cond_t h hc12
   refine run_seq ?_
   refine run_region' ?_
   obtain ⟨r13, hr14, h⟩ := obind_some h
   refine ot rfl rfl (t_callx (vs := []) (cs := []) [(3, 0)] rfl Tryd.call8 rfl (law43_sanity_ok n   hr14) (showsX_view 3 rfl views_glob showsX_nil) rfl (.inl rfl)) ?_
   rintro _ _ ⟨_, ⟨rfl, rfl⟩, rfl⟩
   refine oy rfl rfl (y_move rfl) ?_
   refine ops_cut 4 (Bool) (fun σ => [(46, .bool σ)]) (fun σ => [globA]) (fun σ => σ = (r13 && decide ((r9.1.length : Int) = 0))) (fun L15 hL16 => ?_) ?_
   ·refine ops_split 42 r13 rfl (fun hg17 => ?_) (fun hg17 => ?_)
    ·skip
     refine ops_y (wg 1 true 42 rfl rfl rfl rfl) rfl (y_move rfl) ?_
     refine ops_y (wg 1 true 42 rfl rfl rfl rfl) rfl (y_lenN 4 rfl Tryd.runUnderlying47 rfl rfl readsN_row) ?_
     refine ops_y (wg 1 true 42 rfl rfl rfl rfl) rfl (y_eql rfl rfl) ?_
     refine oy rfl rfl (y_pick (b := true) rfl rfl) ?_
     refine ops_nil ?_
     exact goes_cut hL16 (decide ((r9.1.length : Int) = 0)) [3] (qv1 rfl) (by decide) rfl (by rw [hg17]; simp)
    ·skip
     refine ops_no 1 true 42 rfl rfl rfl rfl rfl ?_
     refine ops_no 1 true 42 rfl rfl rfl rfl rfl ?_
     refine ops_no 1 true 42 rfl rfl rfl rfl rfl ?_
     refine oy rfl rfl (y_pick (b := false) rfl rfl) ?_
     refine ops_nil ?_
     exact goes_cut hL16 false [3] (qv1 rfl) (by decide) rfl (by rw [hg17]; simp)
   rintro _ rfl
   refine oy rfl rfl (y_assign rfl) ?_
   refine ops_nil ?_
   refine goes_code ?_
   refine run_ret ?_
   obtain rfl := some_eq h
   refine fin_slots [8] [.bool (r13 && decide ((r9.1.length : Int) = 0))] [] [] Tryd.results5 rfl (by decide) rfl ?_
   exact ⟨rfl, rfl⟩
  ·replace h := cond_f h hc12
   refine run_skip ?_
   refine goes_code ?_
   refine run_seq ?_
   refine run_seq ?_
   refine run_region' ?_
   refine oy rfl rfl (y_move rfl) ?_
   refine oy rfl rfl (y_lenN 4 rfl Tryd.runUnderlying47 rfl rfl readsN_row) ?_
   refine oy rfl rfl (y_move rfl) ?_
   refine oy rfl rfl ((y_len 1 rfl Tryd.runUnderlying46 rfl rfl reads_ro).to (v_len (eInt .i64) _)) ?_
   refine oy rfl rfl (y_neq rfl rfl) ?_
   refine ops_nil ?_
   refine goes_code ?_
   refine run_cond (decide ((r9.1.length : Int) ≠ (parents_1.length : Int))) rfl (fun hc18 => ?_) (fun hc18 => ?_)
   ·replace h := cond_t h hc18
    refine run_seq ?_
    refine run_region' ?_
    refine oy rfl rfl (y_assign rfl) ?_
    refine ops_nil ?_
    refine goes_code ?_
    refine run_ret ?_
    obtain rfl := some_eq h
    refine fin_slots [8] [.bool false] [] [] Tryd.results5 rfl (by decide) rfl ?_
    exact ⟨rfl, rfl⟩
   ·replace h := cond_f h hc18
    refine run_skip ?_
    refine goes_code ?_
    refine run_seq ?_
    refine run_region' ?_
    refine oy rfl rfl (y_assign rfl) ?_
    refine oy rfl rfl (y_assign rfl) ?_
    refine ops_nil ?_
    refine goes_code ?_
    obtain ⟨o20, h, ho21⟩ := bindJ_some h
    refine run_cut ((Int) × (Unit)) (fun σ => [(11, .int .i64 σ.1), (0, l_0v), (1, parents_1v), (3, .int .i64 t_3), (9, v11), (12, .int .i64 0)]) (fun σ => [ro l_0v 20 (l_0.map S_api_Segment.enc), ro parents_1v 1 (parents_1.map (eInt .i64)), nrow v11 NC_L_int_46 r9.1, globA]) (fun σ => o20 = .go σ.1) (fun L23 hL22 => ?_) ?_
    ·
     refine run_seq ?_
     refine run_weak [(0, l_0v), (1, parents_1v), (2, delays_2v), (3, .int .i64 t_3), (9, v11), (11, .int .i64 0), (12, .int .i64 0)] [0, 1, 2, 3, 4] [ro l_0v 20 (l_0.map S_api_Segment.enc), ro parents_1v 1 (parents_1.map (eInt .i64)), nro delays_2v NC_L_int_46 delays_2, globA, nrow v11 NC_L_int_46 r9.1] (qv7 rfl rfl rfl rfl rfl rfl rfl) (by decide) rfl ?_
     refine run_region' ?_
     refine oy rfl rfl (y_assign rfl) ?_
     refine ops_nil ?_
     refine goes_code ?_
     refine run_block ?_
     refine run_iter (step := law43_PlaylistLagIsBounded_L1 n parents_1 delays_2) (n := n) (s0 := (0, 1)) h (G := Unit) () (fun σ γ => [(11, .int .i64 σ.1), (13, .int .i64 σ.2), (0, l_0v), (1, parents_1v), (2, delays_2v), (3, .int .i64 t_3), (9, v11), (12, .int .i64 0)]) (fun σ γ => [ro l_0v 20 (l_0.map S_api_Segment.enc), ro parents_1v 1 (parents_1.map (eInt .i64)), nro delays_2v NC_L_int_46 delays_2, nrow v11 NC_L_int_46 r9.1, globA]) [0, 1, 2, 4, 3] (qv8 rfl rfl rfl rfl rfl rfl rfl rfl) (by decide) rfl ?_
     rintro ⟨hop_24, k_25⟩ _ o26 h L29 hgo27 hstop28
     change Run _ _ _ (VF.of [(11, .int .i64 hop_24), (13, .int .i64 k_25), (0, l_0v), (1, parents_1v), (2, delays_2v), (3, .int .i64 t_3), (9, v11), (12, .int .i64 0)]) [ro l_0v 20 (l_0.map S_api_Segment.enc), ro parents_1v 1 (parents_1.map (eInt .i64)), nro delays_2v NC_L_int_46 delays_2, nrow v11 NC_L_int_46 r9.1, globA]
     refine run_seq ?_
     refine run_seq ?_
     refine run_region' ?_
     refine oy rfl rfl (y_move rfl) ?_
     refine oy rfl rfl (y_move rfl) ?_
     refine oy rfl rfl ((y_len 1 rfl Tryd.runUnderlying46 rfl rfl reads_ro).to (v_len (eInt .i64) _)) ?_
     refine oy rfl rfl (y_lss rfl rfl) ?_
     refine ops_nil ?_
     refine goes_code ?_
     refine run_cond (decide (k_25 < (parents_1.length : Int))) rfl (fun hc30 => ?_) (fun hc30 => ?_)
     ·replace h := cond_t h hc30
      refine run_skip ?_
      refine goes_code ?_
      obtain ⟨o32, h, ho33⟩ := bindJ_some h
      refine run_cut ((Int) × (Unit)) (fun σ => [(11, .int .i64 σ.1), (0, l_0v), (1, parents_1v), (2, delays_2v), (3, .int .i64 t_3), (9, v11), (12, .int .i64 0), (13, .int .i64 k_25)]) (fun σ => [ro l_0v 20 (l_0.map S_api_Segment.enc), ro parents_1v 1 (parents_1.map (eInt .i64)), nro delays_2v NC_L_int_46 delays_2, nrow v11 NC_L_int_46 r9.1, globA]) (fun σ => o32 = .go σ.1) (fun L35 hL34 => ?_) ?_
      ·
       refine run_block ?_
       refine run_seq ?_
       refine run_region' ?_
       refine oy rfl rfl (y_move rfl) ?_
       refine oy rfl rfl (y_move rfl) ?_
       obtain ⟨x36, hzx36, hlx36, hxx36, h⟩ := idx_some h
       refine oy rfl rfl (y_indexAddrN (kd := .i64) (i := k_25) 2 Tryd.runUnderlying47 Tryd.sizeOf46 rfl rfl rfl readsN_ro hzx36 hlx36) ?_
       refine ops_ex (exAt (C := NC_L_int_46) (i := k_25.toNat) 2 rfl hxx36) ?_
       rintro g37
       refine oy rfl rfl (y_load_at (n := k_25.toNat * 1) (j := 0) 5 Tryd.isAgg46 rfl rfl rfl) ?_
       refine oy rfl rfl ((y_len 6 rfl Tryd.runUnderlying46 rfl rfl reads_ro).to (v_len (eInt .i64) _)) ?_
       refine oy rfl rfl (y_move rfl) ?_
       refine ops_nil ?_
       refine goes_code ?_
       refine run_block ?_
       refine run_iter (step := law43_PlaylistLagIsBounded_L2 x36) (n := n) (s0 := (hop_24, 0)) h (G := Unit) () (fun σ γ => [(11, .int .i64 σ.1), (63, .int .i64 σ.2), (0, l_0v), (1, parents_1v), (2, delays_2v), (3, .int .i64 t_3), (9, v11), (12, .int .i64 0), (13, .int .i64 k_25), (61, g37), (62, .int .i64 (x36.length : Int))]) (fun σ γ => [ro l_0v 20 (l_0.map S_api_Segment.enc), ro parents_1v 1 (parents_1.map (eInt .i64)), nro delays_2v NC_L_int_46 delays_2, nrow v11 NC_L_int_46 r9.1, ro g37 1 (x36.map (eInt .i64)), globA]) [0, 1, 2, 3, 6, 4] (qv11 rfl rfl rfl rfl rfl rfl rfl rfl rfl rfl rfl) (by decide) rfl ?_
       rintro ⟨hop_38, s_39⟩ _ o40 h L43 hgo41 hstop42
       change Run _ _ _ (VF.of [(11, .int .i64 hop_38), (63, .int .i64 s_39), (0, l_0v), (1, parents_1v), (2, delays_2v), (3, .int .i64 t_3), (9, v11), (12, .int .i64 0), (13, .int .i64 k_25), (61, g37), (62, .int .i64 (x36.length : Int))]) [ro l_0v 20 (l_0.map S_api_Segment.enc), ro parents_1v 1 (parents_1.map (eInt .i64)), nro delays_2v NC_L_int_46 delays_2, nrow v11 NC_L_int_46 r9.1, ro g37 1 (x36.map (eInt .i64)), globA]
       refine run_seq ?_
       refine run_region' ?_
       refine oy rfl rfl (y_lss rfl rfl) ?_
       refine ops_nil ?_
       refine goes_code ?_
       refine run_seq ?_
       refine run_cond (decide (s_39 < (x36.length : Int))) rfl (fun hc44 => ?_) (fun hc44 => ?_)
       ·replace h := cond_t h hc44
        refine run_skip ?_
        refine goes_code ?_
        refine run_seq ?_
        refine run_block ?_
        refine run_seq ?_
        refine run_region' ?_
        obtain ⟨x45, hzx45, hlx45, hxx45, h⟩ := idx_some h
        refine oy rfl rfl (y_indexAddrI (kd := .i64) (i := s_39) 4 Tryd.runUnderlying46 Tryd.sizeOf3 rfl rfl rfl reads_ro hzx45 (map_lt hlx45)) ?_
        refine oy rfl rfl (y_load_elem (i := s_39.toNat) 4 Tryd.isAgg3 rfl rfl reads_ro (map_get hxx45)) ?_
        refine oy rfl rfl (y_assign rfl) ?_
        refine ops_nil ?_
        refine goes_code ?_
        refine run_region' ?_
        refine oy rfl rfl (y_move rfl) ?_
        refine oy rfl rfl (y_move rfl) ?_
        refine oy rfl rfl (y_max rfl rfl) ?_
        refine oy rfl rfl (y_assign rfl) ?_
        refine ops_nil ?_
        refine goes_blk ?_
        refine goes_code ?_
        refine run_weak [(11, .int .i64 (max hop_38 x45)), (63, .int .i64 s_39), (0, l_0v), (1, parents_1v), (2, delays_2v), (3, .int .i64 t_3), (9, v11), (12, .int .i64 0), (13, .int .i64 k_25), (61, g37), (62, .int .i64 (x36.length : Int))] [0, 1, 2, 3, 4, 5] [ro l_0v 20 (l_0.map S_api_Segment.enc), ro parents_1v 1 (parents_1.map (eInt .i64)), nro delays_2v NC_L_int_46 delays_2, nrow v11 NC_L_int_46 r9.1, ro g37 1 (x36.map (eInt .i64)), globA] (qv11 rfl rfl rfl rfl rfl rfl rfl rfl rfl rfl rfl) (by decide) rfl ?_
        refine run_region' ?_
        refine oy rfl rfl (y_add rfl rfl) ?_
        refine oy rfl rfl (y_move rfl) ?_
        refine ops_nil ?_
        obtain rfl := some_eq h
        exact goes_iter hgo41 ((max hop_38 x45), (IntKind.i64.wrap (s_39 + 1))) () [0, 1, 2, 3, 4, 5] rfl (qv11 rfl rfl rfl rfl rfl rfl rfl rfl rfl rfl rfl) (by decide) rfl
       ·replace h := cond_f h hc44
        refine run_exit _ rfl ?_
        refine goes_blk ?_
        obtain rfl := some_eq h
        obtain rfl := hstop42 _ rfl
        exact goes_cut hL34 (hop_38, ()) [0, 1, 2, 3, 5] (qv8 rfl rfl rfl rfl rfl rfl rfl rfl) (by decide) rfl rfl
      rintro ⟨hop_31, _⟩ hj
      obtain rfl : o32 = _ := hj
      replace h := after_go ho33
      clear ho33
      change Run _ _ _ (VF.of [(11, .int .i64 hop_31), (0, l_0v), (1, parents_1v), (2, delays_2v), (3, .int .i64 t_3), (9, v11), (12, .int .i64 0), (13, .int .i64 k_25)]) [ro l_0v 20 (l_0.map S_api_Segment.enc), ro parents_1v 1 (parents_1.map (eInt .i64)), nro delays_2v NC_L_int_46 delays_2, nrow v11 NC_L_int_46 r9.1, globA]
      refine run_region' ?_
      refine oy rfl rfl (y_move rfl) ?_
      refine oy rfl rfl (y_add rfl rfl) ?_
      refine oy rfl rfl (y_assign rfl) ?_
      refine ops_nil ?_
      obtain rfl := some_eq h
      exact goes_iter hgo27 (hop_31, (IntKind.i64.wrap (k_25 + 1))) () [0, 1, 2, 3, 4] rfl (qv8 rfl rfl rfl rfl rfl rfl rfl rfl) (by decide) rfl
     ·replace h := cond_f h hc30
      refine run_exit _ rfl ?_
      obtain rfl := some_eq h
      obtain rfl := hstop28 _ rfl
      exact goes_cut hL22 (hop_24, ()) [0, 1, 3, 4] (qv6 rfl rfl rfl rfl rfl rfl) (by decide) rfl rfl
    rintro ⟨hop_19, _⟩ hj
    obtain rfl : o20 = _ := hj
    replace h := after_go ho21
    clear ho21
    change Run _ _ _ (VF.of [(11, .int .i64 hop_19), (0, l_0v), (1, parents_1v), (3, .int .i64 t_3), (9, v11), (12, .int .i64 0)]) [ro l_0v 20 (l_0.map S_api_Segment.enc), ro parents_1v 1 (parents_1.map (eInt .i64)), nrow v11 NC_L_int_46 r9.1, globA]
    obtain ⟨o47, h, ho48⟩ := bindJ_some h
    refine run_cut ((Int) × (Unit)) (fun σ => [(12, .int .i64 σ.1), (0, l_0v), (1, parents_1v), (3, .int .i64 t_3), (9, v11), (11, .int .i64 hop_19)]) (fun σ => [ro l_0v 20 (l_0.map S_api_Segment.enc), ro parents_1v 1 (parents_1.map (eInt .i64)), nrow v11 NC_L_int_46 r9.1, globA]) (fun σ => o47 = .go σ.1) (fun L50 hL49 => ?_) ?_
    ·
     refine run_seq ?_
     refine run_region' ?_
     refine oy rfl rfl (y_move rfl) ?_
     refine oy rfl rfl ((y_len 0 rfl Tryd.runUnderlying22 rfl rfl reads_ro).to (v_len S_api_Segment.enc _)) ?_
     refine oy rfl rfl (y_move rfl) ?_
     refine ops_nil ?_
     refine goes_code ?_
     refine run_block ?_
     refine run_iter (step := law43_PlaylistLagIsBounded_L3 l_0) (n := n) (s0 := (0, 0)) h (G := Unit) () (fun σ γ => [(12, .int .i64 σ.1), (73, .int .i64 σ.2), (0, l_0v), (1, parents_1v), (3, .int .i64 t_3), (9, v11), (11, .int .i64 hop_19), (71, l_0v), (72, .int .i64 (l_0.length : Int))]) (fun σ γ => [ro l_0v 20 (l_0.map S_api_Segment.enc), ro parents_1v 1 (parents_1.map (eInt .i64)), nrow v11 NC_L_int_46 r9.1, globA]) [0, 1, 2, 3] (qv9 rfl rfl rfl rfl rfl rfl rfl rfl rfl) (by decide) rfl ?_
     rintro ⟨longest_51, s_52⟩ _ o53 h L56 hgo54 hstop55
     change Run _ _ _ (VF.of [(12, .int .i64 longest_51), (73, .int .i64 s_52), (0, l_0v), (1, parents_1v), (3, .int .i64 t_3), (9, v11), (11, .int .i64 hop_19), (71, l_0v), (72, .int .i64 (l_0.length : Int))]) [ro l_0v 20 (l_0.map S_api_Segment.enc), ro parents_1v 1 (parents_1.map (eInt .i64)), nrow v11 NC_L_int_46 r9.1, globA]
     refine run_seq ?_
     refine run_region' ?_
     refine oy rfl rfl (y_lss rfl rfl) ?_
     refine ops_nil ?_
     refine goes_code ?_
     refine run_seq ?_
     refine run_cond (decide (s_52 < (l_0.length : Int))) rfl (fun hc57 => ?_) (fun hc57 => ?_)
     ·replace h := cond_t h hc57
      refine run_skip ?_
      refine goes_code ?_
      refine run_seq ?_
      refine run_block ?_
      refine run_seq ?_
      refine run_region' ?_
      obtain ⟨x58, hzx58, hlx58, hxx58, h⟩ := idx_some h
      refine oy rfl rfl (y_indexAddrI (kd := .i64) (i := s_52) 0 Tryd.runUnderlying22 Tryd.sizeOf40 rfl rfl rfl reads_ro hzx58 (map_lt hlx58)) ?_
      refine oy rfl rfl (y_load_agg (i := s_52.toNat) (c := [.int .i64 x58.Num, .int .i64 x58.Begin, .int .i64 x58.Len, .int .u8 x58.Body.a0_, .int .u8 x58.Body.a1_, .int .u8 x58.Body.a2_, .int .u8 x58.Body.a3_, .int .u8 x58.Body.a4_, .int .u8 x58.Body.a5_, .int .u8 x58.Body.a6_, .int .u8 x58.Body.a7_, .int .u8 x58.Body.a8_, .int .u8 x58.Body.a9_, .int .u8 x58.Body.a10_, .int .u8 x58.Body.a11_, .int .u8 x58.Body.a12_, .int .u8 x58.Body.a13_, .int .u8 x58.Body.a14_, .int .u8 x58.Body.a15_, .int .i64 x58.Size]) 0 Tryd.isAgg40 Tryd.sizeOf40 rfl rfl reads_ro (map_get hxx58)) ?_
      refine ot rfl rfl (t_alloc Tryd.zeroValue40) ?_
      rintro _ _ ⟨b59, rfl, rfl⟩
      refine ot rfl rfl (t_store 4 Tryd.sizeOf40 rfl rfl rfl rfl (by simp [Value.cells, boxP]) (by simp [Value.cells, Value.oneCell', boxP])) ?_
      rintro _ _ ⟨rfl, rfl⟩
      refine ops_turn (retell 4 (g := box b59 [.int .i64 x58.Num, .int .i64 x58.Begin, .int .i64 x58.Len, .int .u8 x58.Body.a0_, .int .u8 x58.Body.a1_, .int .u8 x58.Body.a2_, .int .u8 x58.Body.a3_, .int .u8 x58.Body.a4_, .int .u8 x58.Body.a5_, .int .u8 x58.Body.a6_, .int .u8 x58.Body.a7_, .int .u8 x58.Body.a8_, .int .u8 x58.Body.a9_, .int .u8 x58.Body.a10_, .int .u8 x58.Body.a11_, .int .u8 x58.Body.a12_, .int .u8 x58.Body.a13_, .int .u8 x58.Body.a14_, .int .u8 x58.Body.a15_, .int .i64 x58.Size]) rfl (by kernel_rfl)) ?_
      refine ops_nil ?_
      refine goes_code ?_
      refine run_region' ?_
      refine oy rfl rfl (y_move rfl) ?_
      refine oy rfl rfl (y_fieldAddr_box (sz := 0) Tryd.runUnderlying40 rfl Tryd.sizeOf3 rfl) ?_
      refine oy rfl rfl (y_load_box 4 Tryd.isAgg3 rfl rfl rfl) ?_
      refine oy rfl rfl (y_max rfl rfl) ?_
      refine oy rfl rfl (y_assign rfl) ?_
      refine ops_nil ?_
      refine goes_blk ?_
      refine goes_code ?_
      refine run_weak [(12, .int .i64 (max longest_51 x58.Len)), (73, .int .i64 s_52), (0, l_0v), (1, parents_1v), (3, .int .i64 t_3), (9, v11), (11, .int .i64 hop_19), (71, l_0v), (72, .int .i64 (l_0.length : Int))] [0, 1, 2, 3] [ro l_0v 20 (l_0.map S_api_Segment.enc), ro parents_1v 1 (parents_1.map (eInt .i64)), nrow v11 NC_L_int_46 r9.1, globA] (qv9 rfl rfl rfl rfl rfl rfl rfl rfl rfl) (by decide) rfl ?_
      refine run_region' ?_
      refine oy rfl rfl (y_add rfl rfl) ?_
      refine oy rfl rfl (y_move rfl) ?_
      refine ops_nil ?_
      obtain rfl := some_eq h
      exact goes_iter hgo54 ((max longest_51 x58.Len), (IntKind.i64.wrap (s_52 + 1))) () [0, 1, 2, 3] rfl (qv9 rfl rfl rfl rfl rfl rfl rfl rfl rfl) (by decide) rfl
     ·replace h := cond_f h hc57
      refine run_exit _ rfl ?_
      obtain rfl := some_eq h
      obtain rfl := hstop55 _ rfl
      exact goes_cut hL49 (longest_51, ()) [0, 1, 2, 3] (qv6 rfl rfl rfl rfl rfl rfl) (by decide) rfl rfl
    rintro ⟨longest_46, _⟩ hj
    obtain rfl : o47 = _ := hj
    replace h := after_go ho48
    clear ho48
    change Run _ _ _ (VF.of [(12, .int .i64 longest_46), (0, l_0v), (1, parents_1v), (3, .int .i64 t_3), (9, v11), (11, .int .i64 hop_19)]) [ro l_0v 20 (l_0.map S_api_Segment.enc), ro parents_1v 1 (parents_1.map (eInt .i64)), nrow v11 NC_L_int_46 r9.1, globA]
    refine run_seq ?_
    refine run_seq ?_
    refine run_region' ?_
    refine oy rfl rfl (y_move rfl) ?_
    refine oy rfl rfl (y_gtr rfl rfl) ?_
    refine ops_nil ?_
    refine goes_code ?_
    refine run_cond (decide (1073741824 < hop_19)) rfl (fun hc60 => ?_) (fun hc60 => ?_)
    ·replace h := cond_t h hc60
     refine run_seq ?_
     refine run_region' ?_
     obtain ⟨r61, hr62, h⟩ := obind_some h
     refine ot rfl rfl (t_callx (vs := []) (cs := []) [(3, 0)] rfl Tryd.call8 rfl (law43_sanity_ok n   hr62) (showsX_view 3 rfl views_glob showsX_nil) rfl (.inl rfl)) ?_
     rintro _ _ ⟨_, ⟨rfl, rfl⟩, rfl⟩
     refine oy rfl rfl (y_assign rfl) ?_
     refine ops_nil ?_
     refine goes_code ?_
     refine run_ret ?_
     obtain rfl := some_eq h
     refine fin_slots [8] [.bool r61] [] [] Tryd.results5 rfl (by decide) rfl ?_
     exact ⟨rfl, rfl⟩
    ·replace h := cond_f h hc60
     refine run_skip ?_
     refine goes_code ?_
     obtain ⟨o63, h, ho64⟩ := bindJ_some h
     refine run_cut ((Unit) × (Unit)) (fun σ => []) (fun σ => [globA]) (fun σ => o63 = .go σ.1) (fun L66 hL65 => ?_) ?_
     ·
      refine run_seq ?_
      refine run_region' ?_
      refine oy rfl rfl (y_move rfl) ?_
      obtain ⟨r67, hr68, h⟩ := obind_some h
      refine ot rfl rfl (t_callx (vs := [parents_1v]) (cs := []) [(1, 0)] rfl Tryd.call18 rfl (law43_depths_ok n parents_1 parents_1v hr68) (showsX_view 1 rfl views_ro showsX_nil) rfl (.inl rfl)) ?_
      rintro v69 _ ⟨_, ⟨_, rfl, rfl⟩, rfl⟩
      refine oy rfl rfl ((y_len 4 rfl Tryd.runUnderlying46 rfl rfl reads_row).to (v_len (eInt .i64) _)) ?_
      refine oy rfl rfl (y_move rfl) ?_
      refine ops_nil ?_
      refine goes_code ?_
      refine run_block ?_
      refine run_iter (step := law43_PlaylistLagIsBounded_L4 n l_0 t_3 r9 hop_19 longest_46 r67) (n := n) (s0 := 0) h (G := Unit) () (fun σ γ => [(88, .int .i64 σ), (0, l_0v), (3, .int .i64 t_3), (9, v11), (11, .int .i64 hop_19), (12, .int .i64 longest_46), (86, v69), (87, .int .i64 (r67.length : Int))]) (fun σ γ => [ro l_0v 20 (l_0.map S_api_Segment.enc), nrow v11 NC_L_int_46 r9.1, row v69 1 (r67.map (eInt .i64)), globA]) [0, 2, 4, 3] (qv8 rfl rfl rfl rfl rfl rfl rfl rfl) (by decide) rfl ?_
      rintro s_70 _ o71 h L74 hgo72 hstop73
      change Run _ _ _ (VF.of [(88, .int .i64 s_70), (0, l_0v), (3, .int .i64 t_3), (9, v11), (11, .int .i64 hop_19), (12, .int .i64 longest_46), (86, v69), (87, .int .i64 (r67.length : Int))]) [ro l_0v 20 (l_0.map S_api_Segment.enc), nrow v11 NC_L_int_46 r9.1, row v69 1 (r67.map (eInt .i64)), globA]
      refine run_seq ?_
      refine run_region' ?_
      refine oy rfl rfl (y_lss rfl rfl) ?_
      refine ops_nil ?_
      refine goes_code ?_
      refine run_seq ?_
      refine run_cond (decide (s_70 < (r67.length : Int))) rfl (fun hc75 => ?_) (fun hc75 => ?_)
      ·replace h := cond_t h hc75
       refine run_skip ?_
       refine goes_code ?_
       obtain ⟨o76, h, ho77⟩ := bindJ_some h
       refine run_cut ((Unit) × (Unit)) (fun σ => [(0, l_0v), (3, .int .i64 t_3), (9, v11), (11, .int .i64 hop_19), (12, .int .i64 longest_46), (86, v69), (87, .int .i64 (r67.length : Int)), (88, .int .i64 s_70)]) (fun σ => [ro l_0v 20 (l_0.map S_api_Segment.enc), nrow v11 NC_L_int_46 r9.1, row v69 1 (r67.map (eInt .i64)), globA]) (fun σ => o76 = .go σ.1) (fun L79 hL78 => ?_) ?_
       ·
        refine run_block ?_
        refine run_seq ?_
        refine run_region' ?_
        refine oy rfl rfl (y_move rfl) ?_
        obtain ⟨x80, hzx80, hlx80, hxx80, h⟩ := idx_some h
        refine oy rfl rfl (y_indexAddrI (kd := .i64) (i := s_70) 2 Tryd.runUnderlying46 Tryd.sizeOf3 rfl rfl rfl reads_row hzx80 (map_lt hlx80)) ?_
        refine oy rfl rfl (y_load_elem (i := s_70.toNat) 2 Tryd.isAgg3 rfl rfl reads_row (map_get hxx80)) ?_
        refine oy rfl rfl (y_assign rfl) ?_
        refine oy rfl rfl (y_assign rfl) ?_
        refine ops_nil ?_
        refine goes_code ?_
        refine run_seq ?_
        refine run_seq ?_
        refine run_draw (by kernel_rfl) (by kernel_rfl) ?_
        refine sy rfl rfl (y_move rfl) ?_
        refine sy rfl rfl (y_move rfl) ?_
        obtain ⟨x81, hzx81, hlx81, hxx81, h⟩ := idx_some h
        refine sy rfl rfl (y_indexAddrI (kd := .i64) (i := 0) 0 Tryd.runUnderlying22 Tryd.sizeOf40 rfl rfl rfl reads_ro hzx81 (map_lt hlx81)) ?_
        refine sy rfl rfl (y_fieldAddr_elem (sz := 0) Tryd.runUnderlying40 rfl Tryd.sizeOf3 rfl) ?_
        refine sy rfl rfl (y_load_field (i := (0 : Int).toNat) (j := 1) 0 Tryd.isAgg3 rfl rfl reads_ro (map_get hxx81) rfl) ?_
        refine sy rfl rfl (y_move rfl) ?_
        refine sy rfl rfl (y_indexAddrI (kd := .i64) (i := 0) 0 Tryd.runUnderlying22 Tryd.sizeOf40 rfl rfl rfl reads_ro hzx81 (map_lt hlx81)) ?_
        refine sy rfl rfl (y_fieldAddr_elem (sz := 0) Tryd.runUnderlying40 rfl Tryd.sizeOf3 rfl) ?_
        refine sy rfl rfl (y_load_field (i := (0 : Int).toNat) (j := 2) 0 Tryd.isAgg3 rfl rfl reads_ro (map_get hxx81) rfl) ?_
        refine sy rfl rfl (y_add rfl rfl) ?_
        refine sy rfl rfl (y_move rfl) ?_
        refine sy rfl rfl (y_move rfl) ?_
        refine sy rfl rfl (y_mul rfl rfl) ?_
        refine sy rfl rfl (y_add rfl rfl) ?_
        refine sy rfl rfl (y_lss rfl rfl) ?_
        refine sy rfl rfl (y_move rfl) ?_
        obtain ⟨o83, h, ho84⟩ := bindJ_some h
        refine still_cut 18 (Bool) (fun σ => [(88, .int .i64 s_70), (0, l_0v), (3, .int .i64 t_3), (9, v11), (11, .int .i64 hop_19), (12, .int .i64 longest_46), (86, v69), (87, .int .i64 (r67.length : Int)), (18, .int .i64 s_70), (19, .int .i64 x80), (126, .bool σ)]) (fun σ => [ro l_0v 20 (l_0.map S_api_Segment.enc), nrow v11 NC_L_int_46 r9.1, row v69 1 (r67.map (eInt .i64)), globA]) (fun σ => o83 = .go σ) (fun L85 hL86 => ?_) ?_
        ·refine still_split 108 (decide (t_3 < (IntKind.i64.wrap ((IntKind.i64.wrap (x81.Begin + x81.Len)) + (IntKind.i64.wrap (x80 * hop_19)))))) rfl (fun hg87 => ?_) (fun hg87 => ?_)
         ·replace h := cond_t h hg87
          refine still_no 15 false 108 rfl rfl rfl rfl rfl ?_
          refine still_no 15 false 108 rfl rfl rfl rfl rfl ?_
          refine still_no 15 false 108 rfl rfl rfl rfl rfl ?_
          refine still_no 15 false 108 rfl rfl rfl rfl rfl ?_
          refine still_no 15 false 108 rfl rfl rfl rfl rfl ?_
          refine still_no 15 false 108 rfl rfl rfl rfl rfl ?_
          refine still_no 15 false 108 rfl rfl rfl rfl rfl ?_
          refine still_no 15 false 108 rfl rfl rfl rfl rfl ?_
          refine still_no 15 false 108 rfl rfl rfl rfl rfl ?_
          refine still_no 15 false 108 rfl rfl rfl rfl rfl ?_
          refine still_no 15 false 108 rfl rfl rfl rfl rfl ?_
          refine still_no 15 false 108 rfl rfl rfl rfl rfl ?_
          refine still_no 15 false 108 rfl rfl rfl rfl rfl ?_
          refine still_no 15 false 108 rfl rfl rfl rfl rfl ?_
          refine still_no 15 false 108 rfl rfl rfl rfl rfl ?_
          refine still_no 15 false 108 rfl rfl rfl rfl rfl ?_
          refine still_no 15 false 108 rfl rfl rfl rfl rfl ?_
          refine sy rfl rfl (y_pick (b := true) rfl rfl) ?_
          refine still_nil ?_
          obtain rfl := some_eq h
          exact goes_cut hL86 true [0, 1, 2, 3] (qv11 rfl rfl rfl rfl rfl rfl rfl rfl rfl rfl rfl) (by decide) rfl rfl
         ·replace h := cond_f h hg87
          refine still_y (wg 15 false 108 rfl rfl rfl rfl) rfl (y_move rfl) ?_
          refine still_y (wg 15 false 108 rfl rfl rfl rfl) rfl (y_move rfl) ?_
          refine still_y (wg 15 false 108 rfl rfl rfl rfl) rfl (y_move rfl) ?_
          refine still_y (wg 15 false 108 rfl rfl rfl rfl) rfl ((y_len 0 rfl Tryd.runUnderlying22 rfl rfl reads_ro).to (v_len S_api_Segment.enc _)) ?_
          refine still_y (wg 15 false 108 rfl rfl rfl rfl) rfl (y_sub rfl rfl) ?_
          obtain ⟨x88, hzx88, hlx88, hxx88, h⟩ := idx_some h
          refine still_y (wg 15 false 108 rfl rfl rfl rfl) rfl (y_indexAddrI (kd := .i64) (i := (IntKind.i64.wrap ((l_0.length : Int) - 1))) 0 Tryd.runUnderlying22 Tryd.sizeOf40 rfl rfl rfl reads_ro hzx88 (map_lt hlx88)) ?_
          refine still_y (wg 15 false 108 rfl rfl rfl rfl) rfl (y_fieldAddr_elem (sz := 0) Tryd.runUnderlying40 rfl Tryd.sizeOf3 rfl) ?_
          refine still_y (wg 15 false 108 rfl rfl rfl rfl) rfl (y_load_field (i := ((IntKind.i64.wrap ((l_0.length : Int) - 1))).toNat) (j := 1) 0 Tryd.isAgg3 rfl rfl reads_ro (map_get hxx88) rfl) ?_
          refine still_y (wg 15 false 108 rfl rfl rfl rfl) rfl (y_move rfl) ?_
          refine still_y (wg 15 false 108 rfl rfl rfl rfl) rfl (y_move rfl) ?_
          refine still_y (wg 15 false 108 rfl rfl rfl rfl) rfl ((y_len 0 rfl Tryd.runUnderlying22 rfl rfl reads_ro).to (v_len S_api_Segment.enc _)) ?_
          refine still_y (wg 15 false 108 rfl rfl rfl rfl) rfl (y_sub rfl rfl) ?_
          refine still_y (wg 15 false 108 rfl rfl rfl rfl) rfl (y_indexAddrI (kd := .i64) (i := (IntKind.i64.wrap ((l_0.length : Int) - 1))) 0 Tryd.runUnderlying22 Tryd.sizeOf40 rfl rfl rfl reads_ro hzx88 (map_lt hlx88)) ?_
          refine still_y (wg 15 false 108 rfl rfl rfl rfl) rfl (y_fieldAddr_elem (sz := 0) Tryd.runUnderlying40 rfl Tryd.sizeOf3 rfl) ?_
          refine still_y (wg 15 false 108 rfl rfl rfl rfl) rfl (y_load_field (i := ((IntKind.i64.wrap ((l_0.length : Int) - 1))).toNat) (j := 2) 0 Tryd.isAgg3 rfl rfl reads_ro (map_get hxx88) rfl) ?_
          refine still_y (wg 15 false 108 rfl rfl rfl rfl) rfl (y_add rfl rfl) ?_
          refine still_y (wg 15 false 108 rfl rfl rfl rfl) rfl (y_gtr rfl rfl) ?_
          refine sy rfl rfl (y_pick (b := false) rfl rfl) ?_
          refine still_nil ?_
          obtain rfl := some_eq h
          exact goes_cut hL86 (decide ((IntKind.i64.wrap (x88.Begin + x88.Len)) < t_3)) [0, 1, 2, 3] (qv11 rfl rfl rfl rfl rfl rfl rfl rfl rfl rfl rfl) (by decide) rfl rfl
        rintro b82 hj
        obtain rfl : o83 = _ := hj
        replace h := after_go ho84
        clear ho84
        refine still_nil ?_
        refine goes_code ?_
        refine run_cond b82 rfl (fun hc89 => ?_) (fun hc89 => ?_)
        ·replace h := cond_t h hc89
         refine run_exit _ rfl ?_
         obtain rfl := some_eq h
         exact goes_cut hL78 ((), ()) [0, 1, 2, 3] (qv8 rfl rfl rfl rfl rfl rfl rfl rfl) (by decide) rfl rfl
        ·replace h := cond_f h hc89
         refine run_skip ?_
         refine goes_code ?_
         refine run_seq ?_
         refine run_region' ?_
         refine oy rfl rfl (y_move rfl) ?_
         refine oy rfl rfl (y_move rfl) ?_
         refine oy rfl rfl (y_move rfl) ?_
         obtain ⟨x90, hzx90, hlx90, hxx90, h⟩ := idx_some h
         refine oy rfl rfl (y_indexAddrN (kd := .i64) (i := s_70) 1 Tryd.runUnderlying47 Tryd.sizeOf46 rfl rfl rfl readsN_row hzx90 hlx90) ?_
         refine ot rfl rfl (t_loadNf (C := NC_L_int_46) (i := s_70.toNat) (j := 0) 1 (fun γ => γ) Tryd.isAgg46 rfl rfl hxx90 (fun _ => rfl)) ?_
         rintro g91 _ ⟨_, rfl, rfl⟩
         refine oy rfl rfl (y_move rfl) ?_
         obtain ⟨r92, hr93, h⟩ := obind_some h
         refine ot rfl rfl (t_callx (vs := [l_0v, g91, .int .i64 t_3, .int .i64 100]) (cs := []) [(0, 0), (4, 0)] rfl Tryd.call20 rfl (playlist_Seen_ok n l_0 x90 t_3 100 l_0v g91 hr93) (showsX_view 0 rfl views_ro (showsX_view 4 rfl views_ro showsX_nil)) rfl (.inl rfl)) ?_
         rintro _ _ ⟨_, ⟨v94, rfl, rfl⟩, rfl⟩
         obtain ⟨r95, hr96, h⟩ := obind_some h
         refine ot rfl rfl (t_callx (vs := [.agg #[.int .i64 r92.First, v94, .bool r92.Done]]) (cs := []) [(5, 0)] rfl Tryd.call19 rfl (playlist_Edge_ok r92 v94 hr96) (showsX_view 5 rfl views_ro showsX_nil) rfl (.inl rfl)) ?_
         rintro _ _ ⟨_, ⟨rfl, rfl⟩, rfl⟩
         refine oy rfl rfl (y_assign rfl) ?_
         refine ops_nil ?_
         refine goes_code ?_
         refine run_seq ?_
         refine run_weak [(88, .int .i64 s_70), (0, l_0v), (3, .int .i64 t_3), (9, v11), (11, .int .i64 hop_19), (12, .int .i64 longest_46), (86, v69), (87, .int .i64 (r67.length : Int)), (19, .int .i64 x80), (20, .int .i64 r95)] [0, 1, 2, 3] [ro l_0v 20 (l_0.map S_api_Segment.enc), nrow v11 NC_L_int_46 r9.1, row v69 1 (r67.map (eInt .i64)), globA] (qv10 rfl rfl rfl rfl rfl rfl rfl rfl rfl rfl) (by decide) rfl ?_
         refine run_region' ?_
         refine oy rfl rfl (y_move rfl) ?_
         refine oy rfl rfl (y_move rfl) ?_
         refine oy rfl rfl (y_gtr rfl rfl) ?_
         refine oy rfl rfl (y_move rfl) ?_
         obtain ⟨o98, h, ho99⟩ := bindJ_some h
         refine ops_cut 9 (Bool) (fun σ => [(88, .int .i64 s_70), (0, l_0v), (3, .int .i64 t_3), (9, v11), (11, .int .i64 hop_19), (12, .int .i64 longest_46), (86, v69), (87, .int .i64 (r67.length : Int)), (147, .bool σ)]) (fun σ => [ro l_0v 20 (l_0.map S_api_Segment.enc), nrow v11 NC_L_int_46 r9.1, row v69 1 (r67.map (eInt .i64)), globA]) (fun σ => o98 = .go σ) (fun L100 hL101 => ?_) ?_
         ·refine ops_split 138 (decide (t_3 < r95)) rfl (fun hg102 => ?_) (fun hg102 => ?_)
          ·replace h := cond_t h hg102
           refine ops_no 3 false 138 rfl rfl rfl rfl rfl ?_
           refine ops_no 3 false 138 rfl rfl rfl rfl rfl ?_
           refine ops_no 3 false 138 rfl rfl rfl rfl rfl ?_
           refine ops_no 3 false 138 rfl rfl rfl rfl rfl ?_
           refine ops_no 3 false 138 rfl rfl rfl rfl rfl ?_
           refine ops_no 3 false 138 rfl rfl rfl rfl rfl ?_
           refine ops_no 3 false 138 rfl rfl rfl rfl rfl ?_
           refine ops_no 3 false 138 rfl rfl rfl rfl rfl ?_
           refine oy rfl rfl (y_pick (b := true) rfl rfl) ?_
           refine ops_nil ?_
           obtain rfl := some_eq h
           exact goes_cut hL101 true [0, 1, 2, 3] (qv9 rfl rfl rfl rfl rfl rfl rfl rfl rfl) (by decide) rfl rfl
          ·replace h := cond_f h hg102
           refine ops_y (wg 3 false 138 rfl rfl rfl rfl) rfl (y_move rfl) ?_
           refine ops_y (wg 3 false 138 rfl rfl rfl rfl) rfl (y_move rfl) ?_
           refine ops_y (wg 3 false 138 rfl rfl rfl rfl) rfl (y_move rfl) ?_
           refine ops_y (wg 3 false 138 rfl rfl rfl rfl) rfl (y_move rfl) ?_
           refine ops_y (wg 3 false 138 rfl rfl rfl rfl) rfl (y_move rfl) ?_
           obtain ⟨r103, hr104, h⟩ := obind_some h
           refine ops_t (wg 3 false 138 rfl rfl rfl rfl) rfl (t_callx (vs := [.int .i64 x80, .int .i64 hop_19, .int .i64 longest_46]) (cs := []) [] rfl Tryd.call21 rfl (playlist_Lag_ok x80 hop_19 longest_46  hr104) showsX_nil rfl (.inl rfl)) ?_
           rintro _ _ ⟨_, ⟨rfl, rfl⟩, rfl⟩
           refine ops_y (wg 3 false 138 rfl rfl rfl rfl) rfl (y_sub rfl rfl) ?_
           refine ops_y (wg 3 false 138 rfl rfl rfl rfl) rfl (y_leq rfl rfl) ?_
           refine oy rfl rfl (y_pick (b := false) rfl rfl) ?_
           refine ops_nil ?_
           obtain rfl := some_eq h
           exact goes_cut hL101 (decide (r95 ≤ (IntKind.i64.wrap (t_3 - r103)))) [0, 1, 2, 3] (qv9 rfl rfl rfl rfl rfl rfl rfl rfl rfl) (by decide) rfl rfl
         rintro b97 hj
         obtain rfl : o98 = _ := hj
         replace h := after_go ho99
         clear ho99
         refine ops_nil ?_
         refine goes_code ?_
         refine run_cond b97 rfl (fun hc105 => ?_) (fun hc105 => ?_)
         ·replace h := cond_t h hc105
          refine run_seq ?_
          refine run_region' ?_
          refine oy rfl rfl (y_assign rfl) ?_
          refine ops_nil ?_
          refine goes_code ?_
          refine run_ret ?_
          obtain rfl := some_eq h
          obtain rfl := after_stop ho77
          skip
          obtain rfl := hstop73 _ rfl
          skip
          obtain rfl := after_stop ho64
          refine fin_slots [8] [.bool false] [] [] Tryd.results5 rfl (by decide) rfl ?_
          exact ⟨rfl, rfl⟩
         ·replace h := cond_f h hc105
          refine run_skip ?_
          refine goes_blk ?_
          obtain rfl := some_eq h
          exact goes_cut hL78 ((), ()) [0, 1, 2, 3] (qv8 rfl rfl rfl rfl rfl rfl rfl rfl) (by decide) rfl rfl
       rintro ⟨_, _⟩ hj
       obtain rfl : o76 = _ := hj
       replace h := after_go ho77
       clear ho77
       change Run _ _ _ (VF.of [(0, l_0v), (3, .int .i64 t_3), (9, v11), (11, .int .i64 hop_19), (12, .int .i64 longest_46), (86, v69), (87, .int .i64 (r67.length : Int)), (88, .int .i64 s_70)]) [ro l_0v 20 (l_0.map S_api_Segment.enc), nrow v11 NC_L_int_46 r9.1, row v69 1 (r67.map (eInt .i64)), globA]
       refine run_region' ?_
       refine oy rfl rfl (y_add rfl rfl) ?_
       refine oy rfl rfl (y_move rfl) ?_
       refine ops_nil ?_
       obtain rfl := some_eq h
       exact goes_iter hgo72 (IntKind.i64.wrap (s_70 + 1)) () [0, 1, 2, 3] rfl (qv8 rfl rfl rfl rfl rfl rfl rfl rfl) (by decide) rfl
      ·replace h := cond_f h hc75
       refine run_exit _ rfl ?_
       obtain rfl := some_eq h
       obtain rfl := hstop73 _ rfl
       exact goes_cut hL65 ((), ()) [3] vnil (by decide) rfl rfl
     rintro ⟨_, _⟩ hj
     obtain rfl : o63 = _ := hj
     replace h := after_go ho64
     clear ho64
     change Run _ _ _ (VF.of []) [globA]
     refine run_seq ?_
     refine run_region' ?_
     obtain ⟨r106, hr107, h⟩ := obind_some h
     refine ot rfl rfl (t_callx (vs := []) (cs := []) [(0, 0)] rfl Tryd.call8 rfl (law43_sanity_ok n   hr107) (showsX_view 0 rfl views_glob showsX_nil) rfl (.inl rfl)) ?_
     rintro _ _ ⟨_, ⟨rfl, rfl⟩, rfl⟩
     refine oy rfl rfl (y_assign rfl) ?_
     refine ops_nil ?_
     refine goes_code ?_
     refine run_ret ?_
     obtain rfl := some_eq h
     refine fin_slots [8] [.bool r106] [] [] Tryd.results5 rfl (by decide) rfl ?_
     exact ⟨rfl, rfl⟩

end Go.Proofs.YtbgpojdmdnkeaaaDoor
namespace Go.Proofs.YtbgpojdmdnkeaaaDoor
open Go.Abs
set_option linter.unusedSimpArgs false
set_option linter.unusedVariables false
theorem small_eq (l : List S_api_Segment) (parents : List Int) (delays : List (List Int)) (hd : delays.length ≤ 9223372036854775807) (n : Nat) (hn : delays.length < n) :
    law43_small n l parents delays = some (decide ((∀ d ∈ delays, d.length ≤ 60) ∧ l.length ≤ 60 ∧ parents.length ≤ 12 ∧ delays.length ≤ 12)) := by
  unfold law43_small
  obtain ⟨r, e, h⟩ := iter_inv (step := law43_small_L1 delays) (fun s => ∃ i : Nat, s = (i : Int) ∧ i ≤ delays.length ∧ ∀ j (h : j < delays.length), j < i → delays[j].length ≤ 60) (fun s => delays.length - s.toNat)
    (fun r => (r = .go () ∧ ∀ d ∈ delays, d.length ≤ 60) ∨ (r = .stop false ∧ ¬ ∀ d ∈ delays, d.length ≤ 60)) (by
    rintro s ⟨i, rfl, hi, hj⟩
    unfold law43_small_L1
    by_cases hlt : i < delays.length
    · have e : decide ((i : Int) < (delays.length : Int)) = true := decide_eq_true (by omega)
      simp only [e, cond_true]
      rw [idx_get' hlt]
      by_cases h : 60 < delays[i].length
      · rw [decide_eq_true (by omega), cond_true]
        exact .inr ⟨_, rfl, .inr ⟨rfl, fun q => by have := q _ (List.getElem_mem hlt); omega⟩⟩
      · rw [decide_eq_false (by omega), cond_false, w64 (by omega) (by omega)]
        refine .inl ⟨((i + 1 : Nat) : Int), rfl, ⟨i + 1, rfl, by omega, fun j a b => ?_⟩, by simp; omega⟩
        by_cases ej : j = i
        · subst ej; omega
        · exact hj j a (by omega)
    · have e : decide ((i : Int) < (delays.length : Int)) = false := decide_eq_false (by omega)
      refine .inr ⟨.go (), by simp only [e, cond_false], .inl ⟨rfl, fun d hd => ?_⟩⟩
      obtain ⟨j, hj', rfl⟩ := List.getElem_of_mem hd
      exact hj j hj' (by omega)) n 0 ⟨0, rfl, by omega, fun j a b => by omega⟩ (by simpa using hn)
  rw [e]
  rcases h with ⟨rfl, h⟩ | ⟨rfl, h⟩
  · simp only [bindJ_go]
    congr 1
    rw [Bool.eq_iff_iff]
    simp only [Bool.and_eq_true, decide_eq_true_eq]
    constructor
    · rintro ⟨⟨a, b⟩, c⟩; exact ⟨h, by omega, by omega, by omega⟩
    · rintro ⟨_, a, b, c⟩; omega
  · simp only [bindJ_stop]
    rw [decide_eq_false (fun q => h q.1)]
theorem max_fold {R : Type} (step : Int × Int → Option (Lp (Int × Int) (Lp Int R))) (l : List Int) (hl : l.length ≤ 1000000) (h1 : ∀ (m : Int) (i : Nat) (h : i < l.length), step (m, (i : Int)) = some (.go (max m l[i], ((i + 1 : Nat) : Int)))) (h2 : ∀ m, step (m, (l.length : Int)) = some (.stop (.go m))) (m : Int) (n : Nat) (hn : l.length < n) :
    ∃ r, iter step n (m, 0) = some (.go r) ∧ m ≤ r ∧ (∀ x ∈ l, x ≤ r) ∧ (r = m ∨ r ∈ l) := by
  obtain ⟨r, e, q, rfl, a, b, c⟩ := iter_inv (step := step) (fun s => ∃ (i : Nat) (r : Int), s = (r, (i : Int)) ∧ i ≤ l.length ∧ m ≤ r ∧ (∀ j (h : j < l.length), j < i → l[j] ≤ r) ∧ (r = m ∨ r ∈ l)) (fun s => l.length - s.2.toNat) (fun r => ∃ q, r = .go q ∧ m ≤ q ∧ (∀ x ∈ l, x ≤ q) ∧ (q = m ∨ q ∈ l)) (by
    rintro s ⟨i, r, rfl, hi, hm, hj, hr⟩
    by_cases hlt : i < l.length
    · refine .inl ⟨_, h1 r i hlt, ⟨i + 1, _, rfl, by omega, by omega, fun j a b => ?_, ?_⟩, by simp; omega⟩
      · by_cases ej : j = i
        · subst ej; omega
        · have := hj j a (by omega); omega
      · by_cases h : r ≤ l[i]
        · rw [Int.max_eq_right h]; exact .inr (List.getElem_mem _)
        · rw [Int.max_eq_left (by omega)]; exact hr
    · obtain rfl : i = l.length := by omega
      exact .inr ⟨_, h2 r, r, rfl, hm, fun x hx => by obtain ⟨j, a, rfl⟩ := List.getElem_of_mem hx; exact hj j a a, hr⟩) n (m, 0) ⟨0, m, rfl, by omega, by omega, fun j a b => by omega, .inl rfl⟩ (by simpa using hn)
  exact ⟨q, e, a, b, c⟩
theorem hop_loop (parents : List Int) (delays : List (List Int)) (hp : parents.length ≤ 100) (hd : delays.length = parents.length) (hl : ∀ d ∈ delays, d.length ≤ 60) (h1 : 1 ≤ parents.length) (n : Nat) (hn : 200 < n) :
    ∃ r, iter (law43_PlaylistLagIsBounded_L1 n parents delays) n (0, 1) = some (.go r) ∧ 0 ≤ r ∧ ∀ k, 1 ≤ k → k < parents.length → ∀ x ∈ gl delays k, x ≤ r := by
  obtain ⟨r, e, q, rfl, a, b⟩ := iter_inv (step := law43_PlaylistLagIsBounded_L1 n parents delays) (fun s => ∃ (i : Nat) (r : Int), s = (r, (i : Int)) ∧ 1 ≤ i ∧ i ≤ parents.length ∧ 0 ≤ r ∧ ∀ k, 1 ≤ k → k < i → ∀ x ∈ gl delays k, x ≤ r) (fun s => parents.length - s.2.toNat) (fun r => ∃ q, r = .go q ∧ 0 ≤ q ∧ ∀ k, 1 ≤ k → k < parents.length → ∀ x ∈ gl delays k, x ≤ q) (by
    rintro s ⟨i, r, rfl, hi1, hi, hr, hj⟩
    unfold law43_PlaylistLagIsBounded_L1
    by_cases hlt : i < parents.length
    · have e : decide ((i : Int) < (parents.length : Int)) = true := decide_eq_true (by omega)
      simp only [e, cond_true]
      have hid : i < delays.length := by omega
      have hli := hl (gl delays i) (by unfold gl; rw [List.getElem?_eq_getElem hid]; exact List.getElem_mem _)
      rw [idx_get (gl_at hid)]
      obtain ⟨q, e1, a, b, _⟩ := max_fold (law43_PlaylistLagIsBounded_L2 (gl delays i)) (gl delays i) (by omega) (fun m j h => by
        unfold law43_PlaylistLagIsBounded_L2
        simp only
        rw [decide_eq_true (by omega), cond_true, idx_get' h, w64 (by omega) (by omega)]; rfl) (fun m => by unfold law43_PlaylistLagIsBounded_L2; simp) r n (by omega)
      rw [e1, bindJ_go, w64 (by omega) (by omega)]
      refine .inl ⟨_, rfl, ⟨i + 1, q, rfl, by omega, by omega, by omega, fun k h1 h2 x hx => ?_⟩, by simp; omega⟩
      by_cases ek : k = i
      · subst ek; exact b x hx
      · have := hj k h1 (by omega) x hx; omega
    · have e : decide ((i : Int) < (parents.length : Int)) = false := decide_eq_false (by omega)
      obtain rfl : i = parents.length := by omega
      exact .inr ⟨_, by simp only [e, cond_false], r, rfl, hr, hj⟩) n (0, 1) ⟨1, 0, rfl, by omega, h1, by omega, fun k a b => by omega⟩ (by simp; omega)
  exact ⟨q, e, a, b⟩
theorem long_loop (l : List S_api_Segment) (hs : Strm l) (hl : l.length ≤ 60) (n : Nat) (hn : 60 < n) :
    ∃ r, iter (law43_PlaylistLagIsBounded_L3 l) n (0, 0) = some (.go r) ∧ 0 ≤ r ∧ r ≤ 60000 ∧ ∀ i (h : i < l.length), l[i].Len ≤ r := by
  obtain ⟨r, e, a, b, c⟩ := max_fold (law43_PlaylistLagIsBounded_L3 l) (l.map (·.Len)) (by simp; omega) (fun m j h => by
    unfold law43_PlaylistLagIsBounded_L3
    simp only [List.length_map] at h
    simp only
    rw [decide_eq_true (by omega), cond_true, idx_get' h, w64 (by omega) (by omega)]; simp) (fun m => by unfold law43_PlaylistLagIsBounded_L3; simp) 0 n (by simp; omega)
  refine ⟨r, e, a, ?_, fun i h => b _ (List.mem_map.2 ⟨_, List.getElem_mem h, rfl⟩)⟩
  rcases c with rfl | c
  · omega
  · obtain ⟨s, h1, rfl⟩ := List.mem_map.1 c
    obtain ⟨i, h2, rfl⟩ := List.getElem_of_mem h1
    have := hs.1 i h2
    unfold okSeg at this
    omega
theorem edge_last {p : S_api_Playlist} {l : List S_api_Segment} (hs : Strm l) (hl : l.length ≤ 1000) {m : Nat} (hm : m < l.length) (hp : p.L = l.take (m + 1)) : playlist_Edge p = some (sEnd l m) := by
  unfold playlist_Edge
  have hlen : p.L.length = m + 1 := by rw [hp]; simp; omega
  rw [decide_eq_false (by omega), cond_false, w64 (by omega) (by omega), show (p.L.length : Int) - 1 = ((m : Nat) : Int) by omega, idx_get (x := l[m]) (by rw [hp, List.getElem?_take, if_pos (by omega), List.getElem?_eq_getElem hm])]
  simp only [obind]
  rw [end_get hs hm]
  rfl
theorem sEnd_next {l : List S_api_Segment} (hs : Strm l) {m : Nat} (hm : m + 1 < l.length) : sEnd l (m + 1) = sEnd l m + l[m + 1].Len := by
  rw [sEnd_at hm, sEnd_at (show m < l.length by omega), (hs.2 m hm).2]
theorem lag_loop (l : List S_api_Segment) (hs : Strm l) (hl : l.length ≤ 60) (h0 : 0 < l.length) (parents d : List Int) (delays : List (List Int)) (r9 : List (List Int) × Int) (hT : Tree l.length parents delays) (hS : Spr l parents delays r9.1) (hd : d.length = parents.length) (hD : Dep parents d parents.length)
    (hop longest t : Int) (hhop : ∀ k, 1 ≤ k → k < parents.length → ∀ x ∈ gl delays k, x ≤ hop) (hh0 : 0 ≤ hop) (hh1 : hop ≤ 1073741824) (hg0 : 0 ≤ longest) (hg1 : longest ≤ 60000) (hlong : ∀ i (h : i < l.length), l[i].Len ≤ longest) (n : Nat) (hn : 1000 < n) :
    iter (law43_PlaylistLagIsBounded_L4 n l t r9 hop longest d) n 0 = some (.go ()) := by
  obtain ⟨hp1, hp2, hp3, hT⟩ := hT
  have hT2 : ∀ k, 1 ≤ k → k < parents.length → 0 ≤ gi parents k ∧ gi parents k < k := fun k a b => ⟨(hT k a b).1, (hT k a b).2.1⟩
  refine iter_allgo d.length _ (fun k hk => ?_) (by unfold law43_PlaylistLagIsBounded_L4; simp) n (by omega)
  have hkp : k < parents.length := by omega
  have hnear := spr_near hs hT hhop hh0 hS.2 hD k hkp
  have hdb := dep_bounds hT2 hD k hkp
  have hlen : (gl r9.1 k).length = l.length := by
    by_cases e0 : k = 0
    · subst e0; exact hS.2.1.1
    · exact (hS.2.2 k (by omega) hkp).1
  have hout : k < r9.1.length := by rw [hS.1]; exact hkp
  have hmul0 : 0 ≤ gi d k * hop := Int.mul_nonneg hdb.1 hh0
  have hmul1 : gi d k * hop ≤ 100 * 1073741824 := Int.mul_le_mul (by omega) hh1 hh0 (by omega)
  unfold law43_PlaylistLagIsBounded_L4
  rw [decide_eq_true (by omega), cond_true, idx_get (gi_at hk), show (0 : Int) = ((0 : Nat) : Int) from rfl, idx_get' h0]
  have hb0 := sEnd_bounds hs h0
  rw [← sEnd_at h0, w64 (x := sEnd l 0) (by omega) (by omega), w64 (x := gi d k * hop) (by omega) (by omega), w64 (x := sEnd l 0 + gi d k * hop) (by omega) (by omega), w64 (x := (k : Int) + 1) (by omega) (by omega)]
  by_cases ht : t < sEnd l 0 + gi d k * hop
  · rw [decide_eq_true ht]; rfl
  · rw [decide_eq_false ht, cond_false, w64 (x := (l.length : Int) - 1) (by omega) (by omega), show (l.length : Int) - 1 = ((l.length - 1 : Nat) : Int) by omega, idx_get' (show l.length - 1 < l.length by omega)]
    have hbl := sEnd_bounds hs (show l.length - 1 < l.length by omega)
    rw [← sEnd_at, w64 (by omega) (by omega), bindJ_go]
    by_cases ht2 : sEnd l (l.length - 1) < t
    · rw [decide_eq_true ht2]; rfl
    · rw [decide_eq_false ht2, cond_false, idx_get (gl_at hout), seen_short hs hl _ hlen t n hn]
      simp only [obind, Option.bind_some]
      have hc := cnt_le (gl r9.1 k) t
      have hpos : 0 < cnt (gl r9.1 k) t := by
        rcases Nat.eq_zero_or_pos (cnt (gl r9.1 k) t) with h | h
        · have := cnt_at (gl r9.1 k) t (by omega)
          rw [h] at this
          have := hnear 0 h0
          omega
        · exact h
      obtain ⟨m, hm⟩ : ∃ m, cnt (gl r9.1 k) t = m + 1 := ⟨cnt (gl r9.1 k) t - 1, by omega⟩
      rw [edge_last hs (by omega) (show m < l.length by omega) (p := seenP l (gl r9.1 k) t) (by unfold seenP; simp only; rw [hm])]
      simp only [Option.bind_some]
      have up := cnt_lt (gl r9.1 k) t m (by omega)
      have nm := hnear m (by omega)
      rw [decide_eq_false (by omega), cond_false]
      unfold playlist_Lag
      have hbm := sEnd_bounds hs (show m < l.length by omega)
      rw [w64 (x := gi d k * hop) (by omega) (by omega), w64 (x := longest + gi d k * hop) (by omega) (by omega)]
      simp only [Option.bind_some, bindJ_go]
      rw [w64 (by omega) (by omega)]
      have hlow : t - (longest + gi d k * hop) < sEnd l m := by
        by_cases hlast : m + 1 < l.length
        · have a := cnt_at (gl r9.1 k) t (by omega)
          rw [hm] at a
          have b := hnear (m + 1) hlast
          have c := sEnd_next hs hlast
          have e := hlong (m + 1) hlast
          omega
        · have em : m = l.length - 1 := by omega
          rw [← em] at ht2
          have e := hlong m (by omega)
          have f := hs.1 m (by omega)
          unfold okSeg at f
          omega
      rw [decide_eq_false (by omega)]
      rfl
theorem law5_of (l : List S_api_Segment) (parents : List Int) (delays : List (List Int)) (t : Int) (hdl : delays.length ≤ 9223372036854775807) :
    ∃ m, law43_PlaylistLagIsBounded m l parents delays t = some true := by
  obtain ⟨k, hk⟩ : ∃ k : Nat, delays.length + 3000000 ≤ k := ⟨_, Nat.le_refl _⟩
  obtain ⟨n, hsane, hn⟩ : ∃ n, law43_sanity n = some true ∧ k ≤ n := ⟨k + 40, sane k, Nat.le_add_right _ _⟩
  refine ⟨n, ?_⟩
  unfold law43_PlaylistLagIsBounded
  rw [small_eq l parents delays hdl n (by omega), hsane]
  simp only [obind, Option.bind_some]
  by_cases hc : ((∀ d ∈ delays, d.length ≤ 60) ∧ l.length ≤ 60 ∧ parents.length ≤ 12 ∧ delays.length ≤ 12) ∧ l.length ≠ 0
  · obtain ⟨h1, h0⟩ := hc
    rw [decide_eq_true h1, decide_eq_false (show ¬ (l.length : Int) = 0 by omega)]
    obtain ⟨c1, c2, c3, c4⟩ := h1
    simp only [Bool.not_true, Bool.or_false, cond_false]
    obtain ⟨r, e, h⟩ := spread_eq l (by omega) parents delays (fun d hd => by have := c1 d hd; omega) n (by omega)
    rw [e]
    simp only [Option.bind_some]
    rcases h with ⟨hr, hs, hT, hS⟩ | ⟨rfl, _⟩
    · have hT0 := hT
      obtain ⟨hp1, hp2, hp3, hT1⟩ := hT
      rw [decide_eq_false (show ¬ r.2 ≠ 0 by omega), cond_false, decide_eq_false (show ¬ (r.1.length : Int) ≠ (parents.length : Int) by have := hS.1; omega), cond_false]
      obtain ⟨hop, e1, a1, a2⟩ := hop_loop parents delays (by omega) hp3 c1 (by omega) n (by omega)
      obtain ⟨lg, e2, b1, b2, b3⟩ := long_loop l hs c2 n (by omega)
      rw [e1, bindJ_go, e2, bindJ_go]
      by_cases hh : 1073741824 < hop
      · rw [decide_eq_true hh]; rfl
      · rw [decide_eq_false hh, cond_false]
        obtain ⟨d, e3, d1, d2⟩ := depths_eq parents (by omega) (by omega) (fun k a b => ⟨(hT1 k a b).1, (hT1 k a b).2.1⟩) n (by omega)
        rw [e3]
        simp only [Option.bind_some]
        rw [lag_loop l hs c2 (by omega) parents d delays r hT0 hS d1 d2 hop lg t a2 a1 (by omega) b1 b2 b3 n (by omega)]
        rfl
    · rfl
  · have e : ((!(decide ((∀ d ∈ delays, d.length ≤ 60) ∧ l.length ≤ 60 ∧ parents.length ≤ 12 ∧ delays.length ≤ 12))) || decide ((l.length : Int) = 0)) = true := by
      by_cases h1 : ((∀ d ∈ delays, d.length ≤ 60) ∧ l.length ≤ 60 ∧ parents.length ≤ 12 ∧ delays.length ≤ 12)
      · have : l.length = 0 := Classical.byContradiction fun q => hc ⟨h1, q⟩
        rw [decide_eq_true (show (l.length : Int) = 0 by omega), Bool.or_true]
      · rw [decide_eq_false h1]; rfl
    rw [e]; rfl
end Go.Proofs.YtbgpojdmdnkeaaaDoor
namespace Go.Abs
open Go.Sem Go.ChangeShapes Go.RowKit

/-- a law's contract, as the claim's frame wants it -/
theorem Meets.law {P : Program} {f : FuncId} {args : List Value} {H : List HA} (h : Meets P f args H (fun v G => v = .bool true ∧ G = [])) {w : World} (hs : Sats w (fun _ => .no) H) :
    Calls P f args.toArray w fun e w' => e = .returned (.bool true) ∧ Below w.heap.size w w' := by
  refine (h w (fun _ => .no) (fun _ _ => rfl) hs).mono fun e w' ⟨v, G, o', he, ⟨hv, _⟩, _, ht, _⟩ => ?_
  subst hv
  exact ⟨he, ht.os, ht.tape, ht.output, ht.size, fun k hk => (ht.no k hk rfl).2⟩

theorem cells_open {w : World} {a : Option Addr} {len cap es : Nat} {cells : List (List Value)} (hcl : cells.length = len) (h1 : len ≤ cap) (h2 : cap ≤ maxLen) (h3 : a = none → cap = 0) (hes : 0 < es)
    (he : ∀ c ∈ cells, c.length = es) (hc : ∀ x, a = some x → ∀ i c, cells[i]? = some c → ∀ j v, c[j]? = some v → w.cell? (x.add (i * es + j)) = some v) :
    SliceIs w (fun b => (fun _ => Ow.no : Own) b = .no) (.slice a len cap) es cells := by
  refine ⟨a, cap, by rw [hcl], by omega, h2, h3, ?_⟩
  intro i c hi
  have hlen := he c (List.mem_of_getElem? hi)
  cases a with
  | none =>
    have := (List.getElem?_eq_some_iff.1 hi).1
    have := h3 rfl
    omega
  | some x =>
    have e0 : c[0]? = some (c[0]'(by omega)) := List.getElem?_eq_getElem (by omega)
    have h := hc x rfl i c hi 0 _ e0
    have hs0 := World.cell?_spot h
    have hb : x.block < w.heap.size := by
      unfold World.cell? at h
      have e : (x.add (i * es + 0)).block = x.block := by unfold Addr.add; split <;> rfl
      rw [e] at h
      cases hh : w.heap[x.block]? with
      | none => rw [hh] at h; simp at h
      | some o => exact (Array.getElem?_eq_some_iff.1 hh).1
    obtain ⟨b, off, spot⟩ := x
    refine ⟨hlen, b, off, ?_, hb, rfl, ?_⟩
    · cases spot with
      | none => rfl
      | some q =>
        exfalso
        have hi0 : ∀ i c, cells[i]? = some c → i = 0 := by
          intro i c hi
          false_or_by_contra
          have hlen := he c (List.mem_of_getElem? hi)
          have hi00 : cells[0]? = some (cells[0]'(by have := (List.getElem?_eq_some_iff.1 hi).1; omega)) := List.getElem?_eq_getElem _
          have hl0 := he _ (List.mem_of_getElem? hi00)
          have h := hc _ rfl 0 _ hi00 0 _ (List.getElem?_eq_getElem (by omega))
          have := World.cell?_spot h
          simp [Addr.add] at this
        have := hi0 i c hi
        subst this
        simp [Addr.add] at hs0
    · intro j v hj
      have h' := hc _ rfl i c hi j v hj
      have hsp := World.cell?_spot h'
      rw [← h']
      congr 1
      unfold Addr.add at hsp ⊢
      split
      · rename_i h0
        rw [if_pos h0] at hsp
        simp only at hsp
        rw [hsp]
        have : off + i * es + j = off := by omega
        rw [this]
      · rw [Nat.add_assoc]
theorem slice_nil {w : World} {B : Nat → Prop} {es : Nat} : SliceIs w B (.slice none 0 0) es [] := ⟨none, 0, rfl, by simp, by unfold maxLen; omega, fun _ => rfl, fun i c h => by simp at h⟩
end Go.Abs
namespace Go.Abs
open Go.Sem Go.ChangeShapes Go.RowKit
end Go.Abs
namespace Go.Abs
open Go.Sem Go.ChangeShapes Go.RowKit
section
variable {H : Type} {enc : TypeId × Value → H} {P : Program} {w : World} {base : Nat} {sp : Nat → Bool} {held : Bool}
end
end Go.Abs
namespace Go.Abs
open Go.Sem Go.ChangeShapes Go.RowKit
section
variable {H : Type} {enc : TypeId × Value → H} {P : Program} {w : World} {base : Nat} {sp : Nat → Bool} {held : Bool}
def wfI (k : IntKind) (n : Int) : Prop := (Lit.int k n).wf = true
/-- a type is opened: what is read of it lies in the cells 'F a', and a is well formed -/
def Opens (enc : TypeId × Value → H) (P : Program) (w : World) (base : Nat) (sp : Nat → Bool) (held : Bool) (t : TypeId) {α : Type} (F : α → List Value) (wf : α → Prop) : Prop :=
  ∀ (fuel : Nat) (cs : List Value) (x : DataW H × List MemPlace), DataW.trod enc P w base sp held fuel t cs = some x → ∃ a, cs = F a ∧ wf a
theorem opn_int {t : TypeId} {k : IntKind} (ht : P.underlying t = some (.int k)) : Opens enc P w base sp held t (eInt k) (wfI k) := by
  intro fuel cs x h
  obtain ⟨n, hc, _, hw⟩ := DataW.trod_int ht h
  exact ⟨n, hc, hw⟩
/-- the elements of a slice that is opened -/
theorem opn_slice {t e : TypeId} {es : Nat} {α : Type} {F : α → List Value} {wf : α → Prop} (ht : P.underlying t = some (.slice e)) (hce : P.cellsOf e = es) (hes : 0 < es) (hF : ∀ a, (F a).length = es)
    (ho : Opens enc P w base sp held e F wf) {fuel : Nat} {cs : List Value} {x : DataW H × List MemPlace} (h : DataW.trod enc P w base sp held fuel t cs = some x) :
    ∃ (v : Value) (l : List α), cs = [v] ∧ (∀ a ∈ l, wf a) ∧ SliceIs w (fun b => (fun _ => Ow.no : Own) b = .no) v es (l.map F) ∧
      ((x = (.nil, []) ∧ l = []) ∨ ∃ ys rs ps, x = (.slice ys rs, ps) ∧ ys.length = l.length) := by
  rcases DataW.trod_slice ht h with ⟨rfl, hx⟩ | ⟨a, len, cap, elems, rest, m, _, rfl, rfl, hb, hl, hm, hlen, hel', hsp, hns⟩
  · exact ⟨_, [], rfl, by simp, slice_nil, .inl ⟨hx, rfl⟩⟩
  · have each : ∀ i, i < len → ∃ d : α, wf d ∧ ∀ j v, (F d)[j]? = some v → w.cell? (a.add (i * es + j)) = some v := by
      intro i hi
      have h1 := hel' i hi
      rw [List.getElem?_eq_getElem (by omega), hce, Option.bind_eq_some_iff] at h1
      obtain ⟨cs', hcs, hy⟩ := h1
      obtain ⟨d, rfl, hd⟩ := ho _ _ _ hy
      refine ⟨d, hd, fun j v hj => ?_⟩
      have hjlt : j < es := by have := (List.getElem?_eq_some_iff.1 hj).1; rw [hF] at this; omega
      have := (World.cells?_some hcs).2.2 j hjlt
      rw [hj] at this
      rw [← this]
      congr 1
      unfold Addr.add
      by_cases e1 : i * es = 0
      · rw [if_pos e1]; simp [e1]
      · rw [if_neg e1, if_neg (by omega)]
        by_cases e2 : j = 0
        · simp [e2]
        · rw [if_neg e2]; simp [Nat.add_assoc]
    have hch : ∃ l : List α, l.length = len ∧ ∀ i d, l[i]? = some d → wf d ∧ ∀ j v, (F d)[j]? = some v → w.cell? (a.add (i * es + j)) = some v := by
      clear hel' hlen hsp hns hl h
      induction len with
      | zero => exact ⟨[], rfl, by simp⟩
      | succ k ih =>
        obtain ⟨l, hl1, hl2⟩ := ih (fun i hi => each i (by omega))
        obtain ⟨d, hd1, hd2⟩ := each k (by omega)
        refine ⟨l ++ [d], by simp [hl1], fun i d' hi => ?_⟩
        by_cases hik : i < k
        · rw [List.getElem?_append_left (by omega)] at hi; exact hl2 i d' hi
        · rw [List.getElem?_append_right (by omega)] at hi
          have : i = k := by have := (List.getElem?_eq_some_iff.1 hi).1; simp at this; omega
          subst this
          rw [hl1, Nat.sub_self] at hi
          simp at hi
          subst hi
          exact ⟨hd1, hd2⟩
    obtain ⟨l, hl1, hl2⟩ := hch
    refine ⟨_, l, rfl, ?_, ?_, .inr ⟨_, _, _, rfl, by simp [hlen, hl1]⟩⟩
    · intro d hd
      obtain ⟨i, hi⟩ := List.getElem?_of_mem hd
      exact (hl2 i d hi).1
    · refine cells_open (by rw [List.length_map, hl1]) hl hm (by simp) hes ?_ ?_
      · intro c hc
        obtain ⟨d, hd, rfl⟩ := List.mem_map.1 hc
        exact hF d
      · intro x hx i c hi j v hj
        cases hx
        simp only [List.getElem?_map, Option.map_eq_some_iff] at hi
        obtain ⟨d, hd, rfl⟩ := hi
        exact (hl2 i d hd).2 j v hj
end
end Go.Abs
namespace Go.Abs
open Go.Sem Go.ChangeShapes Go.RowKit
section
variable {H : Type} {enc : TypeId × Value → H} {P : Program} {w : World} {base : Nat} {sp : Nat → Bool} {held : Bool}
def noO : Own := fun _ => .no
def OpensN (enc : TypeId × Value → H) (P : Program) (w : World) (base : Nat) (sp : Nat → Bool) (held : Bool) (t : TypeId) {α : Type} (C : NC α) (wf : α → Prop) : Prop :=
  ∀ (fuel : Nat) (cs : List Value) (x : DataW H × List MemPlace), DataW.trod enc P w base sp held fuel t cs = some x → ∃ a g, cs = C.F a g ∧ wf a ∧ ∀ k, HsP (C.S a g) w noO k
theorem slice_len {t e : TypeId} (ht : P.underlying t = some (.slice e)) {fuel : Nat} {cs : List Value} {x : DataW H × List MemPlace} (h : DataW.trod enc P w base sp held fuel t cs = some x) {N : Nat}
    (hx : (x = (.nil, []) ∧ N = 0) ∨ ∃ ys rs ps, x = (.slice ys rs, ps) ∧ ys.length = N) : N ≤ maxLen := by
  rcases DataW.trod_slice ht h with ⟨_, h0⟩ | ⟨a, len, cap, elems, rest, m, _, _, h0, _, hl, hm, hlen, _⟩
  · rcases hx with ⟨_, rfl⟩ | ⟨ys, rs, ps, h1, _⟩
    · exact Nat.zero_le _
    · rw [h0] at h1; cases h1
  · rcases hx with ⟨h1, _⟩ | ⟨ys, rs, ps, h1, h2⟩
    · rw [h0] at h1; cases h1
    · rw [h0] at h1; cases h1; rw [List.length_map] at h2; omega
theorem opn_leafL {t e : TypeId} {es : Nat} {α : Type} {F : α → List Value} {wf : α → Prop} (ht : P.underlying t = some (.slice e)) (hce : P.cellsOf e = es) (hes : 0 < es) (hF : ∀ a, (F a).length = es)
    (ho : Opens enc P w base sp held e F wf) {fuel : Nat} {cs : List Value} {x : DataW H × List MemPlace} (h : DataW.trod enc P w base sp held fuel t cs = some x) :
    ∃ (v : Value) (l : List α), cs = [v] ∧ (l.length ≤ maxLen ∧ ∀ a ∈ l, wf a) ∧ ∀ k, (ro v es (l.map F)).p w noO k := by
  obtain ⟨v, l, h1, h2, h3, h4⟩ := opn_slice ht hce hes hF ho h
  refine ⟨v, l, h1, ⟨slice_len ht h ?_, h2⟩, fun _ => h3⟩
  rcases h4 with ⟨h5, rfl⟩ | h5
  · exact .inl ⟨h5, rfl⟩
  · exact .inr h5
theorem opn_leafNL {t e : TypeId} {α : Type} {C : NC α} {wf : α → Prop} (ht : P.underlying t = some (.slice e)) (hce : P.cellsOf e = C.es) (hes : 0 < C.es) (hF : ∀ a g, (C.F a g).length = C.es)
    (ho : OpensN enc P w base sp held e C wf) {fuel : Nat} {cs : List Value} {x : DataW H × List MemPlace} (h : DataW.trod enc P w base sp held fuel t cs = some x)
    (hn : C.nn = true → False := by exact fun h => absurd h (by decide)) : ∃ (v : Value) (l : List α), cs = [v] ∧ (l.length ≤ maxLen ∧ ∀ a ∈ l, wf a) ∧ ∀ k, (nro v C l).p w noO k := by
  have ho' : Opens enc P w base sp held e (fun p : α × C.G => C.F p.1 p.2) (fun p => wf p.1 ∧ ∀ k, HsP (C.S p.1 p.2) w noO k) := fun fuel cs x h => let ⟨a, g, h1, h2, h3⟩ := ho fuel cs x h; ⟨(a, g), h1, h2, h3⟩
  obtain ⟨v, lg, h1, h2, h3, h4⟩ := opn_slice ht hce hes (fun p : α × C.G => hF p.1 p.2) ho' h
  refine ⟨v, lg.map (·.1), h1, ⟨slice_len ht h ?_, ?_⟩, fun k => ⟨⟨lg, rfl, h3, fun p hp => (h2 p hp).2 k⟩, fun h => (hn h).elim⟩⟩
  · rcases h4 with ⟨h5, rfl⟩ | h5
    · exact .inl ⟨h5, rfl⟩
    · exact .inr (by simpa using h5)
  intro a ha
  obtain ⟨p, hp, rfl⟩ := List.mem_map.1 ha
  exact (h2 p hp).1
end
end Go.Abs
namespace Go.Abs
open Go.Sem Go.ChangeShapes Go.RowKit
theorem laid_at {P : Program} {w : World} {n : String} {d : DataW Unit} : ∀ {l : List (String × DataW Unit)} {ps : List MemPlace}, DataW.LaidVars P w l ps → (n, d) ∈ l →
    ∃ g t cs fuel p, P.globalNamed n = some g ∧ (P.globals[g]?).map (·.type) = some t ∧ w.var? P n = some cs ∧ DataW.trod (fun _ => ()) P w 0 (fun _ => true) false fuel t cs.toList = some (d, p)
  | [], _, _, h => by simp at h
  | (m, e) :: r, ps, ⟨g, t, cs, fuel, p, q, h1, h2, h3, h4, h5, _⟩, h => by
    rcases List.mem_cons.1 h with h | h
    · cases h; exact ⟨g, t, cs, fuel, p, h1, h2, h3, h4⟩
    · exact laid_at h5 h
theorem laid_tab {P : Program} {w : World} {l : List (String × DataW Unit)} {name : String} {k : IntKind} {zs : List Int} {g t e : Nat} {n : Nat} (h : laidMet P l w) (hm : (name, Lib.tabData k zs) ∈ l)
    (hg : P.globalNamed name = some g) (hty : (P.globals[g]?).map (·.type) = some t) (ht : P.underlying t = some (.array n e)) (he : P.underlying e = some (.int k)) (hce : P.cellsOf e = 1) (hct : P.cellsOf t = n) : Lib.TabIs P w name k zs := by
  obtain ⟨ps, hl, _⟩ := h
  obtain ⟨g', t', cs, fuel, p, hg', ht', hvar, hd⟩ := laid_at hl hm
  obtain rfl := Option.some.inj (hg.symm.trans hg')
  obtain rfl := Option.some.inj (hty.symm.trans ht')
  unfold Lib.TabIs
  rw [hvar, ← Lib.cells_of_tab ht he hce hct hd]
theorem laid_iface {P : Program} {w : World} {l : List (String × DataW Unit)} {name s : String} {d : DataW Unit} {g t : Nat} {ms : Array (String × TypeId)} (h : laidMet P l w) (hm : (name, DataW.iface s d) ∈ l)
    (hg : P.globalNamed name = some g) (hty : (P.globals[g]?).map (·.type) = some t) (ht : P.underlying t = some (.interface ms)) : ∃ u v, w.cell? ⟨g, 0, none⟩ = some (.iface u v) := by
  obtain ⟨ps, hl, _⟩ := h
  obtain ⟨g', t', cs, fuel, p, hg', ht', hvar, hd⟩ := laid_at hl hm
  obtain rfl := Option.some.inj (hg.symm.trans hg')
  obtain rfl := Option.some.inj (hty.symm.trans ht')
  have hc : ∃ u v, cs.toList = [.iface u v] := by
    cases fuel with
    | zero => simp [DataW.trod] at hd
    | succ fuel =>
      unfold DataW.trod at hd
      rw [ht] at hd
      split at hd <;> simp_all
  obtain ⟨u, v, hc⟩ := hc
  refine ⟨u, v, ?_⟩
  have := World.var?_cell hg hvar 0
  rw [this, ← Array.getElem?_toList, hc]; rfl
section
variable {H : Type} {enc : TypeId × Value → H} {P : Program} {w : World} {base : Nat} {sp : Nat → Bool} {held : Bool}
theorem opn_arr {t e : TypeId} {n : Nat} {k : IntKind} (ht : P.underlying t = some (.array n e)) (he : P.underlying e = some (.int k)) (hce : P.cellsOf e = 1) (hct : P.cellsOf t = n) {fuel : Nat} {cs : List Value} {x : DataW H × List MemPlace}
    (h : DataW.trod enc P w base sp held fuel t cs = some x) : ∃ l : List Int, l.length = n ∧ cs = l.map (Value.int k) ∧ ∀ a ∈ l, wfI k a := by
  obtain ⟨xs, m, _, _, hl, hx, hf⟩ := DataW.trod_array ht h
  rw [hct] at hl
  have key : ∀ i, i < n → ∃ a, cs[i]? = some (.int k a) ∧ wfI k a := by
    intro i hi
    have h1 := hf i hi
    rw [List.getElem?_eq_getElem (show i < xs.length by omega)] at h1
    obtain ⟨a, hc, _, hw⟩ := DataW.trod_int he h1
    refine ⟨a, ?_, hw⟩
    have := congrArg (·[0]?) hc
    simpa [hce, List.getElem?_take, List.getElem?_drop] using this
  clear hf hx
  have all : ∀ (n : Nat) (cs : List Value), cs.length = n → (∀ i, i < n → ∃ a, cs[i]? = some (.int k a) ∧ wfI k a) → ∃ l : List Int, l.length = n ∧ cs = l.map (Value.int k) ∧ ∀ a ∈ l, wfI k a := by
    intro n
    induction n with
    | zero => intro cs hl _; exact ⟨[], rfl, by simpa using hl, by simp⟩
    | succ n ih =>
      intro cs hl key
      match cs, hl with
      | c :: r, hl =>
        obtain ⟨l, e1, e2, e3⟩ := ih r (by simpa using hl) (fun i hi => by simpa using key (i + 1) (by omega))
        obtain ⟨a, e4, e5⟩ := key 0 (by omega)
        refine ⟨a :: l, by simp [e1], ?_, ?_⟩
        · simp at e4; simp [e4, ← e2]
        · intro b hb
          rcases List.mem_cons.1 hb with rfl | hb
          · exact e5
          · exact e3 b hb
  exact all n cs hl key
end
end Go.Abs
namespace Go.Proofs.YtbgpojdmdnkeaaaDoor
open Go.Abs Go.ChangeShapes Go.RowKit
set_option maxRecDepth 100000
set_option linter.unusedVariables false
def S_api_Digest.wf (x : S_api_Digest) : Prop := ∀ a ∈ x.toL, wfI .u8 a
theorem S_api_Digest.opn {H : Type} {enc : TypeId × Value → H} {w : World} {base : Nat} {sp : Nat → Bool} {held : Bool} : Opens enc Tryd.prog w base sp held 38 S_api_Digest.enc S_api_Digest.wf := by
  intro fuel cs x h
  obtain ⟨l, hl, e, hw⟩ := opn_arr Tryd.underlying38 Tryd.underlying5 (by kernel_rfl) (by kernel_rfl) h
  match l, hl with
  | [y0, y1, y2, y3, y4, y5, y6, y7, y8, y9, y10, y11, y12, y13, y14, y15], _ => exact ⟨⟨y0, y1, y2, y3, y4, y5, y6, y7, y8, y9, y10, y11, y12, y13, y14, y15⟩, e, hw⟩
def S_api_Segment.wf (x : S_api_Segment) : Prop := wfI .i64 x.Num ∧ wfI .i64 x.Begin ∧ wfI .i64 x.Len ∧ S_api_Digest.wf x.Body ∧ wfI .i64 x.Size
theorem S_api_Segment.opn {H : Type} {enc : TypeId × Value → H} {w : World} {base : Nat} {sp : Nat → Bool} {held : Bool} : Opens enc Tryd.prog w base sp held 40 S_api_Segment.enc S_api_Segment.wf := by
  intro fuel cs x h
  obtain ⟨xs, n, _, _, hl, hlen, hf⟩ := DataW.trod_struct Tryd.underlying40 h
  have hl' : cs.length = 20 := hl.trans (by kernel_rfl)
  have hx : xs.length = 5 := hlen
  have k3 : Tryd.prog.cellsOf 3 = 1 := by kernel_rfl
  have k38 : Tryd.prog.cellsOf 38 = 16 := by kernel_rfl
  match cs, hl' with
  | [c0, c1, c2, c3, c4, c5, c6, c7, c8, c9, c10, c11, c12, c13, c14, c15, c16, c17, c18, c19], _ =>
    have f0 := hf 0 _ rfl
    rw [List.getElem?_eq_getElem (show 0 < xs.length by omega)] at f0
    obtain ⟨a0, e0, w0⟩ := (opn_int Tryd.underlying3) _ _ _ f0
    simp [k3, eInt, eStr, eBool] at e0
    have f1 := hf 1 _ rfl
    rw [List.getElem?_eq_getElem (show 1 < xs.length by omega)] at f1
    obtain ⟨a1, e1, w1⟩ := (opn_int Tryd.underlying3) _ _ _ f1
    simp [k3, eInt, eStr, eBool] at e1
    have f2 := hf 2 _ rfl
    rw [List.getElem?_eq_getElem (show 2 < xs.length by omega)] at f2
    obtain ⟨a2, e2, w2⟩ := (opn_int Tryd.underlying3) _ _ _ f2
    simp [k3, eInt, eStr, eBool] at e2
    have f3 := hf 3 _ rfl
    rw [List.getElem?_eq_getElem (show 3 < xs.length by omega)] at f3
    obtain ⟨a3, e3, w3⟩ := S_api_Digest.opn _ _ _ f3
    simp [k38, S_api_Digest.enc] at e3
    have f4 := hf 4 _ rfl
    rw [List.getElem?_eq_getElem (show 4 < xs.length by omega)] at f4
    obtain ⟨a4, e4, w4⟩ := (opn_int Tryd.underlying3) _ _ _ f4
    simp [k3, eInt, eStr, eBool] at e4
    exact ⟨⟨a0, a1, a2, a3, a4⟩, by simp [S_api_Segment.enc, e0, e1, e2, e3, e4], w0, w1, w2, w3, w4⟩
def S_api_Playlist.wf (x : S_api_Playlist) : Prop := wfI .i64 x.First ∧ (x.L.length ≤ maxLen ∧ ∀ a ∈ x.L, S_api_Segment.wf a) ∧ True
theorem NC_L_int_46.opn {H : Type} {enc : TypeId × Value → H} {w : World} {base : Nat} {sp : Nat → Bool} {held : Bool} : OpensN enc Tryd.prog w base sp held 46 NC_L_int_46 (fun a => (a.length ≤ maxLen ∧ ∀ c ∈ a, wfI .i64 c)) := by
  intro fuel cs x h
  obtain ⟨v, l, e, hw, hs⟩ := opn_leafL (es := 1) (F := (eInt .i64)) (wf := (fun a => wfI .i64 a)) Tryd.underlying46 (by kernel_rfl) (by decide) (fun a => ((eInt_ok _) a).1) (opn_int Tryd.underlying3) h
  exact ⟨l, v, e, hw, fun k h hh => by simp only [NC_L_int_46, List.mem_cons, List.not_mem_nil, or_false] at hh; subst hh; exact hs k⟩

end Go.Proofs.YtbgpojdmdnkeaaaDoor
namespace Go.Proofs.YtbgpojdmdnkeaaaDoor
open Go.Abs
theorem law5 (l : List S_api_Segment) (parents : List Int) (delays : List (List Int)) (t : Int) (_ : l.length ≤ maxLen ∧ ∀ a ∈ l, S_api_Segment.wf a) (_ : parents.length ≤ maxLen ∧ ∀ a ∈ parents, wfI .i64 a) (hd : delays.length ≤ maxLen ∧ ∀ a ∈ delays, (a.length ≤ maxLen ∧ ∀ c ∈ a, wfI .i64 c)) (_ : wfI .i64 t) :
    ∃ m, law43_PlaylistLagIsBounded m l parents delays t = some true := law5_of l parents delays t (by have := hd.1; unfold maxLen at this; omega)
end Go.Proofs.YtbgpojdmdnkeaaaDoor
namespace Go.Proofs.YtbgpojdmdnkeaaaDoor
open Go.Abs
/-- so many blocks has the settled world -/
noncomputable def low : Nat := (World.holding Tryd.prog default ⟨#[], #[], []⟩).heap.size
/-- the settled world with the laid variables -/
noncomputable def laidWorld (os : Os) : World :=
  let w0 := World.holding Tryd.prog os ⟨#[.cells #[.string ⟨#[105, 110, 118, 97, 108, 105, 100, 32, 115, 121, 110, 116, 97, 120]⟩] 140, .cells #[.string ⟨#[118, 97, 108, 117, 101, 32, 111, 117, 116, 32, 111, 102, 32, 114, 97, 110, 103, 101]⟩] 140], #[], []⟩
  { w0 with heap := (((((((w0.heap.modify 3 fun
      | .cells _ t frozen => .cells (([1, 10, 100, 1000, 10000, 100000, 1000000, 10000000, 100000000, 1000000000, 10000000000, 100000000000, 1000000000000, 10000000000000, 100000000000000, 1000000000000000, 10000000000000000, 100000000000000000, 1000000000000000000, 10000000000000000000] : List Int).map (Value.int .u64)).toArray t frozen
      | o => o).modify 4 fun
      | .cells _ t frozen => .cells (Go.Pinned.utf8FirstZ.map fun (n : Nat) => Value.int .u8 (n : Int)).toArray t frozen
      | o => o).modify 5 fun
      | .cells _ t frozen => .cells (([128, 191, 160, 191, 128, 159, 144, 191, 128, 143, 0, 0, 0, 0, 0, 0, 0, 0, 0, 0, 0, 0, 0, 0, 0, 0, 0, 0, 0, 0, 0, 0] : List Int).map (Value.int .u8)).toArray t frozen
      | o => o).modify 6 fun
      | .cells _ t frozen => .cells (([0, 1, 28, 2, 29, 14, 24, 3, 30, 22, 20, 15, 25, 17, 4, 8, 31, 27, 13, 23, 21, 19, 16, 7, 26, 12, 18, 6, 11, 5, 10, 9] : List Int).map (Value.int .u8)).toArray t frozen
      | o => o).modify 7 fun
      | .cells _ t frozen => .cells (([0, 1, 56, 2, 57, 49, 28, 3, 61, 58, 42, 50, 38, 29, 17, 4, 62, 47, 59, 36, 45, 43, 51, 22, 53, 39, 33, 30, 24, 18, 12, 5, 63, 55, 48, 27, 60, 41, 37, 16, 46, 35, 44, 21, 52, 32, 23, 11, 54, 26, 40, 15, 34, 20, 31, 10, 25, 14, 19, 9, 13, 8, 7, 6] : List Int).map (Value.int .u8)).toArray t frozen
      | o => o).modify 1 fun
      | .cells _ t frozen => .cells #[.iface 138 (.pointer (some ⟨low, 0, none⟩))] t frozen
      | o => o).modify 2 fun
      | .cells _ t frozen => .cells #[.iface 138 (.pointer (some ⟨low + 1, 0, none⟩))] t frozen
      | o => o) }
def laidL : List (String × DataW Unit) := [("math/bits.deBruijn32tab", Rows.laid_math_bits_deBruijn32tab), ("math/bits.deBruijn64tab", Rows.laid_math_bits_deBruijn64tab), ("internal/strconv.uint64pow10", Rows.laid_internal_strconv_uint64pow10), ("unicode/utf8.acceptRanges", Rows.laid_unicode_utf8_acceptRanges), ("strconv.ErrRange", Rows.laid_strconv_ErrRange), ("strconv.ErrSyntax", Rows.laid_strconv_ErrSyntax), ("unicode/utf8.first", Rows.laid_unicode_utf8_first)]
theorem laidWorld_met (os : Os) (args : Array Value) : laidMet Tryd.prog laidL ((laidWorld os).forCall (fun _ _ => 0) ⟨#[], args, []⟩).memory :=
  laidMet_of_run' 8 (by kernel_rfl) (by kernel_rfl)
theorem gPow : Tryd.prog.globalNamed "internal/strconv.uint64pow10" = some 3 := by kernel_rfl
theorem globIs {W : World} (h : laidMet Tryd.prog laidL W) (hs : W.ShapedOpen Tryd.prog) : GlobIs Tryd.prog 8 W where
  maxLen := let ⟨m, hm⟩ := Tryd.laysM146.s1_3 W hs; ⟨0, m, gMax, by decide, hm⟩
  errSyntax := let ⟨u, v, hc⟩ := laid_iface (s := "*errors.errorString") (d := .ptr (.agg [.lit (.string [105, 110, 118, 97, 108, 105, 100, 32, 115, 121, 110, 116, 97, 120])])) h (by simp [laidL, Rows.laid_strconv_ErrSyntax]) gSyn (t := 87) (by kernel_rfl) Tryd.underlying87; ⟨1, u, v, gSyn, by decide, hc⟩
  errRange := let ⟨u, v, hc⟩ := laid_iface (s := "*errors.errorString") (d := .ptr (.agg [.lit (.string [118, 97, 108, 117, 101, 32, 111, 117, 116, 32, 111, 102, 32, 114, 97, 110, 103, 101])])) h (by simp [laidL, Rows.laid_strconv_ErrRange]) gRng (t := 87) (by kernel_rfl) Tryd.underlying87; ⟨2, u, v, gRng, by decide, hc⟩
  pow10 := ⟨3, gPow, by decide, laid_tab h (List.mem_cons_of_mem _ (List.mem_cons_of_mem _ (List.mem_cons.2 (.inl (by kernel_rfl))))) gPow (t := 127) (by kernel_rfl) Tryd.underlying127 Tryd.underlying112 (by kernel_rfl) (by kernel_rfl)⟩
theorem laid_size {W : World} (h : laidMet Tryd.prog laidL W) : 8 ≤ W.heap.size := by
  obtain ⟨ps, hl, _⟩ := h
  obtain ⟨g, t, cs, fuel, p, e1, _, e3, _⟩ := laid_at (n := "math/bits.deBruijn64tab") hl (List.mem_cons_of_mem _ (List.mem_cons_self ..))
  have eg : Tryd.prog.globalNamed "math/bits.deBruijn64tab" = some 7 := by kernel_rfl
  obtain rfl := Option.some.inj (eg.symm.trans e1)
  unfold World.var? at e3
  rw [eg] at e3
  simp only [Option.bind_some] at e3
  by_cases h : 7 < W.heap.size
  · omega
  · rw [Array.getElem?_eq_none (by omega)] at e3; simp at e3
theorem globP {W : World} (h : laidMet Tryd.prog laidL W) (hs : W.ShapedOpen Tryd.prog) (k : Nat) : globA.p W noO k := ⟨laid_size h, fun _ _ => rfl, globIs h hs⟩
end Go.Proofs.YtbgpojdmdnkeaaaDoor
