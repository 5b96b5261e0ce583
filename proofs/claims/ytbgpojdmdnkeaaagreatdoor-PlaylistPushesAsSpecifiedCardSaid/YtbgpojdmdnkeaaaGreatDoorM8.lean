/-
  Texts that stand side by side: AbsPlain, Pa, Pg, Ph, Pj, Pb, Pc, Pd, Pe, Pf.
-/
import Derived.Test.YtbgpojdmdnkeaaaGreatDoorM1
import Derived.Test.YtbgpojdmdnkeaaaGreatDoorFe
namespace Go.Abs
@[simp] theorem bindJ_go {S R : Type} (s : S) (k : S → Option R) : bindJ (some (.go s)) k = k s := rfl
@[simp] theorem bindJ_stop {S R : Type} (r : R) (k : S → Option R) : bindJ (some (.stop r)) k = some r := rfl
@[simp] theorem bindJ_none {S R : Type} (k : S → Option R) : bindJ (none : Option (Lp S R)) k = none := rfl
theorem need_pos {α : Type} {p : Prop} [Decidable p] (h : p) (x : Option α) : need p x = x := by simp [need, h]
theorem idx_get {α β : Type} {l : List α} {i : Nat} {x : α} (h : l[i]? = some x) (k : α → Option β) : idx l (i : Int) k = k x := by simp [idx, h]
theorem idx_get' {α β : Type} {l : List α} {i : Nat} (h : i < l.length) (k : α → Option β) : idx l (i : Int) k = k l[i] := idx_get (List.getElem?_eq_getElem h) k
theorem iter_go {S R : Type} {step : S → Option (Lp S R)} {n : Nat} {s s' : S} (h : step s = some (.go s')) : iter step (n + 1) s = iter step n s' := by simp [iter, h]
theorem iter_stop {S R : Type} {step : S → Option (Lp S R)} {n : Nat} {s : S} {r : R} (h : step s = some (.stop r)) : iter step (n + 1) s = some r := by simp [iter, h]
/-- a loop by an invariant and a measure -/
theorem iter_inv {S R : Type} {step : S → Option (Lp S R)} (inv : S → Prop) (μ : S → Nat) (post : R → Prop)
    (h : ∀ s, inv s → (∃ s', step s = some (.go s') ∧ inv s' ∧ μ s' < μ s) ∨ (∃ r, step s = some (.stop r) ∧ post r)) :
    ∀ (n : Nat) (s : S), inv s → μ s < n → ∃ r, iter step n s = some r ∧ post r
  | 0, s, _, hm => by omega
  | n + 1, s, hi, hm => by
    rcases h s hi with ⟨s', h1, h2, h3⟩ | ⟨r, h1, h2⟩
    · obtain ⟨r, h4, h5⟩ := iter_inv inv μ post h n s' h2 (by omega)
      exact ⟨r, by rw [iter_go h1, h4], h5⟩
    · exact ⟨r, iter_stop h1, h2⟩
theorem w64 {x : Int} (h1 : -9223372036854775808 ≤ x) (h2 : x ≤ 9223372036854775807) : IntKind.i64.wrap x = x := wrap_i64 h1 h2
end Go.Abs
namespace Go.Abs
/-- a walk along a list that may stop -/
def foldL {α S R : Type} (f : S → α → Lp S R) (fin : S → R) : S → List α → R
  | s, [] => fin s
  | s, x :: r => match f s x with
    | .go s' => foldL f fin s' r
    | .stop q => q
def Lp.mapS {S T R : Type} (g : S → T) : Lp S R → Lp T R
  | .go s => .go (g s)
  | .stop r => .stop r
@[simp] theorem mapS_go {S T R : Type} (g : S → T) (s : S) : (Lp.go s : Lp S R).mapS g = .go (g s) := rfl
@[simp] theorem mapS_stop {S T R : Type} (g : S → T) (r : R) : (Lp.stop r : Lp S R).mapS g = .stop r := rfl
/-- a loop that counts along a list -/
theorem iter_fold {α S T R : Type} {step : T → Option (Lp T R)} {l : List α} (mk : Nat → S → T) (f : S → α → Lp S R) (fin : S → R) (inv : Nat → S → Prop)
    (hgo : ∀ i s x, inv i s → l[i]? = some x → step (mk i s) = some ((f s x).mapS (mk (i + 1))) ∧ ∀ s', f s x = .go s' → inv (i + 1) s')
    (hend : ∀ s, inv l.length s → step (mk l.length s) = some (.stop (fin s))) :
    ∀ (n i : Nat) (s : S), inv i s → i ≤ l.length → l.length - i < n → iter step n (mk i s) = some (foldL f fin s (l.drop i))
  | 0, i, s, _, _, h => by omega
  | n + 1, i, s, hi, hle, h => by
    by_cases e : i = l.length
    · subst e
      rw [iter_stop (hend s hi), List.drop_length]; rfl
    · have hlt : i < l.length := by omega
      obtain ⟨h1, h2⟩ := hgo i s _ hi (List.getElem?_eq_getElem hlt)
      rw [List.drop_eq_getElem_cons hlt]
      cases hf : f s l[i] with
      | go s' =>
        rw [hf] at h1
        rw [iter_go h1, iter_fold mk f fin inv hgo hend n (i + 1) s' (h2 s' hf) (by omega) (by omega)]
        simp [foldL, hf]
      | stop q =>
        rw [hf] at h1
        rw [iter_stop h1]
        simp [foldL, hf]
end Go.Abs
namespace Go.Abs
theorem foldL_gom {α S R : Type} {f : S → α → Lp S R} {fin : S → R} (g : S → α → S) : ∀ (l : List α) (s : S), (∀ s x, x ∈ l → f s x = .go (g s x)) → foldL f fin s l = fin (l.foldl g s)
  | [], s, _ => rfl
  | x :: r, s, h => by
    simp only [foldL, h s x (List.mem_cons_self ..), List.foldl_cons]
    exact foldL_gom g r _ (fun s y hy => h s y (List.mem_cons_of_mem _ hy))
/-- a loop that counts up to N -/
theorem iter_range {S T R : Type} {step : T → Option (Lp T R)} (N : Nat) (mk : Nat → S → T) (f : S → Nat → Lp S R) (fin : S → R) (inv : Nat → S → Prop)
    (hgo : ∀ i s, inv i s → i < N → step (mk i s) = some ((f s i).mapS (mk (i + 1))) ∧ ∀ s', f s i = .go s' → inv (i + 1) s')
    (hend : ∀ s, inv N s → step (mk N s) = some (.stop (fin s))) (n : Nat) (s : S) (h0 : inv 0 s) (hn : N < n) : iter step n (mk 0 s) = some (foldL f fin s (List.range N)) := by
  have := iter_fold (l := List.range N) mk f fin inv (fun i s x hi hx => by
    have hlt := (List.getElem?_eq_some_iff.1 hx).1
    simp at hlt
    have : x = i := by simp [hlt] at hx; exact hx.symm
    subst this
    exact hgo x s hi hlt) (fun s hs => by simpa using hend s (by simpa using hs)) n 0 s h0 (Nat.zero_le _) (by simpa using hn)
  simpa using this
theorem iter_allgo {R : Type} {step : Int → Option (Lp Int R)} (N : Nat) (q : R) (h : ∀ i : Nat, i < N → step (i : Int) = some (.go ((i + 1 : Nat) : Int))) (he : step (N : Int) = some (.stop q)) (n : Nat) (hn : N < n) : iter step n 0 = some q := by
  have := iter_range (step := step) N (fun (i : Nat) (_ : Unit) => (i : Int)) (fun _ _ => Lp.go ()) (fun _ => q) (fun _ _ => True) (fun i s _ hi => ⟨h i hi, fun _ _ => trivial⟩) (fun s _ => he) n () trivial hn
  rw [foldL_gom (fun _ _ => ()) _ _ (fun _ _ _ => rfl)] at this
  exact this
end Go.Abs
namespace Go.Proofs.YtbgpojdmdnkeaaaGreatDoor
open Go.Abs
set_option linter.unusedSimpArgs false
set_option linter.unusedVariables false
theorem sane (n : Nat) : law43_sanity (n + 40) = some true := by kernel_rfl
def okSeg (s : S_api_Segment) : Prop := 0 ≤ s.Num ∧ s.Num ≤ 1099511627776 ∧ 0 ≤ s.Begin ∧ s.Begin ≤ 1099511627776 ∧ 1 ≤ s.Len ∧ s.Len ≤ 60000 ∧ 0 ≤ s.Size ∧ s.Size ≤ 1099511627776
instance (s : S_api_Segment) : Decidable (okSeg s) := by unfold okSeg; exact inferInstance
theorem right_eq (s : S_api_Segment) : playlist_right s = some (decide (okSeg s)) := by
  unfold playlist_right
  congr 1
  rw [Bool.eq_iff_iff]
  simp only [Bool.and_eq_true, decide_eq_true_eq]
  unfold okSeg
  omega
def joins (a b : S_api_Segment) : Prop := b.Num = a.Num + 1 ∧ b.Begin = a.Begin + a.Len
instance (a b : S_api_Segment) : Decidable (joins a b) := by unfold joins; exact inferInstance
theorem end_eq {s : S_api_Segment} (h : okSeg s) : playlist_end s = some (s.Begin + s.Len) := by
  unfold playlist_end
  unfold okSeg at h
  rw [w64 (by omega) (by omega)]
def Strm (l : List S_api_Segment) : Prop := (∀ i (h : i < l.length), okSeg l[i]) ∧ ∀ i (h : i + 1 < l.length), joins l[i] l[i + 1]
theorem stream_loop (l : List S_api_Segment) (hl : l.length ≤ 4294967296) (n : Nat) (hn : l.length < n) :
    ∃ r, iter (playlist_stream_L1 l) n 0 = some r ∧ ((r = .go () ∧ Strm l) ∨ (r = .stop false ∧ ¬ Strm l)) := by
  refine iter_inv (step := playlist_stream_L1 l) (fun s : Int => ∃ i : Nat, s = i ∧ i ≤ l.length ∧ (∀ j (h : j < l.length), j < i → okSeg l[j]) ∧ ∀ j (h : j + 1 < l.length), j + 1 < i → joins l[j] l[j + 1]) (fun s => l.length - s.toNat) _ ?_ n 0 ⟨0, rfl, Nat.zero_le _, fun j h hj => by omega, fun j h hj => by omega⟩ (by simpa using hn)
  rintro s ⟨i, rfl, hi, hok, hj⟩
  unfold playlist_stream_L1
  by_cases hlt : i < l.length
  · have e : decide ((i : Int) < (l.length : Int)) = true := by simpa using hlt
    simp only [e, cond_true]
    rw [idx_get' hlt, right_eq]
    simp only [obind, Option.bind_some]
    by_cases hk : okSeg l[i]
    · simp only [hk, decide_true, Bool.not_true, cond_false]
      by_cases h0 : i = 0
      · subst h0
        left
        refine ⟨1, by simp [w64], ⟨1, rfl, by omega, fun j h hj' => ?_, fun j h hj' => by omega⟩, by simp; omega⟩
        obtain rfl : j = 0 := by omega
        exact hk
      · have e1 : decide (0 < (i : Int)) = true := by simp; omega
        simp only [e1, cond_true]
        have hp : i - 1 < l.length := by omega
        rw [w64 (x := (i : Int) - 1) (by omega) (by omega), show (i : Int) - 1 = ((i - 1 : Nat) : Int) by omega, idx_get' hp]
        have hkp := hok (i - 1) hp (by omega)
        rw [end_eq hkp]
        have hkp' := hkp
        unfold okSeg at hkp'
        rw [w64 (x := l[i - 1].Num + 1) (by omega) (by omega)]
        simp only [obind, Option.bind_some]
        by_cases hjn : joins l[i - 1] l[i]
        · left
          obtain ⟨j1, j2⟩ := hjn
          refine ⟨((i + 1 : Nat) : Int), ?_, ⟨i + 1, rfl, by omega, fun j h hj' => ?_, fun j h hj' => ?_⟩, by simp; omega⟩
          · simp only [j1, j2, ne_eq, not_true_eq_false, decide_false, cond_false, bindJ_go]
            rw [w64 (x := (i : Int) + 1) (by omega) (by omega)]; rfl
          · by_cases e : j = i
            · subst e; exact hk
            · exact hok j h (by omega)
          · by_cases e : j + 1 = i
            · subst e; exact ⟨j1, j2⟩
            · exact hj j h (by omega)
        · right
          refine ⟨.stop false, ?_, .inr ⟨rfl, fun hS => hjn ?_⟩⟩
          · by_cases hn : l[i].Num = l[i - 1].Num + 1
            · have hb : ¬ l[i].Begin = l[i - 1].Begin + l[i - 1].Len := fun h => hjn ⟨hn, h⟩
              simp [hn, hb]
            · simp [hn]
          · have := hS.2 (i - 1) (by omega)
            simpa [show i - 1 + 1 = i by omega] using this
    · right
      refine ⟨.stop false, by simp [hk], .inr ⟨rfl, fun hS => hk (hS.1 i hlt)⟩⟩
  · have e : decide ((i : Int) < (l.length : Int)) = false := by simp; omega
    right
    exact ⟨.go (), by simp only [e, cond_false], .inl ⟨rfl, fun j h => hok j h (by omega), fun j h => hj j h (by omega)⟩⟩
open Classical in
theorem stream_eq (l : List S_api_Segment) (hl : l.length ≤ 4294967296) (n : Nat) (hn : l.length < n) : playlist_stream n l = some (decide (Strm l ∧ l.length ≤ 1000)) := by
  unfold playlist_stream
  obtain ⟨r, e, h⟩ := stream_loop l hl n hn
  rw [e]
  rcases h with ⟨rfl, h⟩ | ⟨rfl, h⟩
  · have e1 : ((l.length : Int) ≤ 1000) ↔ (Strm l ∧ l.length ≤ 1000) := ⟨fun q => ⟨h, by omega⟩, fun q => by have := q.2; omega⟩
    simp only [bindJ_go, e1]
  · have e1 : ¬ (Strm l ∧ l.length ≤ 1000) := fun q => h q.1
    simp only [bindJ_stop, e1, decide_false]
def VP (p : S_api_Playlist) : Prop := 0 ≤ p.First ∧ p.First ≤ 1099511627776 ∧ p.L.length ≤ 100 ∧ (∀ h : 0 < p.L.length, p.L[0].Num = p.First) ∧ Strm p.L
open Classical in
theorem valid_eq (p : S_api_Playlist) (n : Nat) (hn : 101 < n) : playlist_Valid n p = some (decide (VP p)) := by
  unfold playlist_Valid
  by_cases h1 : 0 ≤ p.First ∧ p.First ≤ 1099511627776 ∧ p.L.length ≤ 100
  · obtain ⟨a1, a2, a3⟩ := h1
    have e : ((decide (0 ≤ p.First) && decide (p.First ≤ 1099511627776)) && decide ((p.L.length : Int) ≤ 100)) = true := by simp only [Bool.and_eq_true, decide_eq_true_eq]; omega
    rw [e]
    simp only [cond_true]
    rw [stream_eq p.L (by omega) n (by omega)]
    have hS : (Strm p.L ∧ p.L.length ≤ 1000) ↔ Strm p.L := ⟨fun q => q.1, fun q => ⟨q, by omega⟩⟩
    by_cases h0 : p.L.length = 0
    · have e0 : decide ((p.L.length : Int) = 0) = true := decide_eq_true (by omega)
      have hV : VP p ↔ Strm p.L := ⟨fun h => h.2.2.2.2, fun h => ⟨a1, a2, a3, fun h' => absurd h' (by omega), h⟩⟩
      simp only [e0, cond_true, bindJ_go, obind, Option.bind_some, hS, hV]
    · have e0 : decide ((p.L.length : Int) = 0) = false := decide_eq_false (by omega)
      have hp : 0 < p.L.length := by omega
      simp only [e0, cond_false]
      rw [show (0 : Int) = ((0 : Nat) : Int) from rfl, idx_get' hp]
      by_cases hf : p.L[0].Num = p.First
      · have hV : VP p ↔ Strm p.L := ⟨fun h => h.2.2.2.2, fun h => ⟨a1, a2, a3, fun h' => hf, h⟩⟩
        simp only [hf, decide_true, bindJ_go, cond_true, obind, Option.bind_some, hS, hV]
      · have hV : ¬ VP p := fun h => hf (h.2.2.2.1 hp)
        simp only [hf, decide_false, bindJ_go, cond_false, hV]
  · have e : ((decide (0 ≤ p.First) && decide (p.First ≤ 1099511627776)) && decide ((p.L.length : Int) ≤ 100)) = false := by
      rw [Bool.eq_false_iff]; intro h; simp only [Bool.and_eq_true, decide_eq_true_eq] at h; omega
    have hV : ¬ VP p := fun h => h1 ⟨h.1, h.2.1, h.2.2.1⟩
    simp only [e, cond_false, bindJ_go, hV, decide_false]
theorem next_eq {p : S_api_Playlist} (h : VP p) : playlist_Next p = some (p.First + p.L.length) := by
  unfold playlist_Next
  have := h.2.2.1
  have := h.1
  have := h.2.1
  rw [w64 (by omega) (by omega)]
end Go.Proofs.YtbgpojdmdnkeaaaGreatDoor
namespace Go.Proofs.YtbgpojdmdnkeaaaGreatDoor
open Go.Abs
set_option linter.unusedSimpArgs false
set_option linter.unusedVariables false
def sEnd (l : List S_api_Segment) (i : Nat) : Int := ((l[i]?).map fun s => s.Begin + s.Len).getD 0
theorem sEnd_at {l : List S_api_Segment} {i : Nat} (h : i < l.length) : sEnd l i = l[i].Begin + l[i].Len := by unfold sEnd; rw [List.getElem?_eq_getElem h]; rfl
theorem sEnd_bounds {l : List S_api_Segment} (hs : Strm l) {i : Nat} (h : i < l.length) : 0 ≤ sEnd l i ∧ sEnd l i ≤ 2199023255552 := by
  have := hs.1 i h
  unfold okSeg at this
  rw [sEnd_at h]; omega
theorem end_get {l : List S_api_Segment} (hs : Strm l) {i : Nat} (h : i < l.length) : playlist_end l[i] = some (sEnd l i) := by
  rw [end_eq (hs.1 i h), sEnd_at h]
end Go.Proofs.YtbgpojdmdnkeaaaGreatDoor
namespace Go.Proofs.YtbgpojdmdnkeaaaGreatDoor
open Go.Abs
set_option linter.unusedSimpArgs false
set_option linter.unusedVariables false
theorem cut_id (p : S_api_Playlist) (w : Int) (hw0 : 0 ≤ w) (hw : w ≤ 1000000) (hl : p.L.length ≤ 1000000) (hf : -4611686018427387904 ≤ p.First ∧ p.First ≤ 4611686018427387904) :
    playlist_cut p w = some ⟨p.First + max 0 ((p.L.length : Int) - w), p.L.drop (max 0 ((p.L.length : Int) - w)).toNat, p.Done⟩ := by
  unfold playlist_cut
  rw [w64 (x := (p.L.length : Int) - w) (by omega) (by omega), need_pos (by omega), w64 (by omega) (by omega)]
theorem clone_eq (l : List S_api_Segment) (h : l.length ≤ 4294967296) : slices_Clone_weirgate_api_Segment_weirgate_api_Segment_40 l = some l := by
  unfold slices_Clone_weirgate_api_Segment_weirgate_api_Segment_40
  rw [need_pos (by simpa using h)]; rfl
end Go.Proofs.YtbgpojdmdnkeaaaGreatDoor
namespace Go.Proofs.YtbgpojdmdnkeaaaGreatDoor
open Go.Abs
set_option linter.unusedSimpArgs false
set_option linter.unusedVariables false
theorem find_loop (l : List S_api_Segment) (hl : l.length ≤ 1000000) (k : Int) (n : Nat) (hn : l.length < n) :
    ∃ r, slices_IndexFunc_weirgate_api_Segment_weirgate_api_Segment_80 n l k = some r ∧ ((r = -1 ∧ ∀ s ∈ l, s.Num ≠ k) ∨ ∃ (i : Nat) (h : i < l.length), r = i ∧ l[i].Num = k ∧ ∀ j (hj : j < l.length), j < i → l[j].Num ≠ k) := by
  unfold slices_IndexFunc_weirgate_api_Segment_weirgate_api_Segment_80
  obtain ⟨r, e, h⟩ := iter_inv (step := slices_IndexFunc_weirgate_api_Segment_weirgate_api_Segment_80_L1 l k) (fun s => ∃ i : Nat, s = (i : Int) ∧ i ≤ l.length ∧ ∀ j (hj : j < l.length), j < i → l[j].Num ≠ k) (fun s => l.length - s.toNat)
    (fun r => (r = .go () ∧ ∀ s ∈ l, s.Num ≠ k) ∨ ∃ (i : Nat) (h : i < l.length), r = .stop (i : Int) ∧ l[i].Num = k ∧ ∀ j (hj : j < l.length), j < i → l[j].Num ≠ k) (by
    rintro s ⟨i, rfl, hi, hj⟩
    unfold slices_IndexFunc_weirgate_api_Segment_weirgate_api_Segment_80_L1 playlist_Find_1_68
    by_cases hlt : i < l.length
    · rw [decide_eq_true (by omega), cond_true, idx_get' hlt]
      simp only [obind, Option.bind_some]
      by_cases hk : l[i].Num = k
      · rw [decide_eq_true hk]
        exact .inr ⟨_, rfl, .inr ⟨i, hlt, rfl, hk, hj⟩⟩
      · rw [decide_eq_false hk, cond_false, w64 (by omega) (by omega)]
        refine .inl ⟨((i + 1 : Nat) : Int), rfl, ⟨i + 1, rfl, by omega, fun j a b => ?_⟩, by simp; omega⟩
        by_cases ej : j = i
        · subst ej; exact hk
        · exact hj j a (by omega)
    · rw [decide_eq_false (by omega), cond_false]
      refine .inr ⟨_, rfl, .inl ⟨rfl, fun s hs => ?_⟩⟩
      obtain ⟨j, a, rfl⟩ := List.getElem_of_mem hs
      exact hj j a (by omega)) n 0 ⟨0, rfl, by omega, fun j a b => by omega⟩ (by simpa using hn)
  rw [e]
  rcases h with ⟨rfl, h⟩ | ⟨i, h1, rfl, h2, h3⟩
  · exact ⟨-1, rfl, .inl ⟨rfl, h⟩⟩
  · exact ⟨_, rfl, .inr ⟨i, h1, rfl, h2, h3⟩⟩
def zeroSeg : S_api_Segment := ⟨0, 0, 0, ⟨0, 0, 0, 0, 0, 0, 0, 0, 0, 0, 0, 0, 0, 0, 0, 0⟩, 0⟩
theorem find_eq (p : S_api_Playlist) (hl : p.L.length ≤ 1000000) (k : Int) (n : Nat) (hn : p.L.length < n) :
    (playlist_Find n p k = some (zeroSeg, 5) ∧ ∀ s ∈ p.L, s.Num ≠ k) ∨ ∃ (i : Nat) (h : i < p.L.length), playlist_Find n p k = some (p.L[i], 0) ∧ p.L[i].Num = k ∧ ∀ j (hj : j < p.L.length), j < i → p.L[j].Num ≠ k := by
  unfold playlist_Find playlist_one
  obtain ⟨r, e, h⟩ := find_loop p.L hl k n hn
  rw [e]
  rcases h with ⟨rfl, h⟩ | ⟨i, h1, rfl, h2, h3⟩
  · exact .inl ⟨rfl, h⟩
  · refine .inr ⟨i, h1, ?_, h2, h3⟩
    simp only [obind, Option.bind_some]
    rw [decide_eq_true (by omega), cond_true, idx_get' h1]
    rfl
def nextP (p : S_api_Playlist) : Int := p.First + p.L.length
def edgeP (p : S_api_Playlist) : Int := sEnd p.L (p.L.length - 1)
/-- what one playlist has, the other has, too, or does not speak of it -/
def Agree (e l : S_api_Playlist) : Prop := ∀ i (hi : i < e.L.length) j (hj : j < l.L.length), e.L[i].Num = l.L[j].Num → l.L[j] = e.L[i]
def cutP (p : S_api_Playlist) (w : Int) : S_api_Playlist := ⟨p.First + max 0 ((p.L.length : Int) - w), p.L.drop (max 0 ((p.L.length : Int) - w)).toNat, p.Done⟩
theorem edge_eq {p : S_api_Playlist} (h : VP p) (h0 : 0 < p.L.length) : playlist_Edge ⟨p.First, p.L, p.Done⟩ = some (edgeP p) := by
  have hL := h.2.2.1
  unfold playlist_Edge edgeP
  simp only
  rw [decide_eq_false (by omega), cond_false, w64 (by omega) (by omega), show (p.L.length : Int) - 1 = ((p.L.length - 1 : Nat) : Int) by omega, idx_get' (by omega), end_get h.2.2.2.2 (by omega)]
  rfl
end Go.Proofs.YtbgpojdmdnkeaaaGreatDoor
namespace Go.Proofs.YtbgpojdmdnkeaaaGreatDoor
open Go.Abs
set_option linter.unusedSimpArgs false
set_option linter.unusedVariables false
end Go.Proofs.YtbgpojdmdnkeaaaGreatDoor
namespace Go.Proofs.YtbgpojdmdnkeaaaGreatDoor
open Go.Abs
set_option linter.unusedSimpArgs false
set_option linter.unusedVariables false
end Go.Proofs.YtbgpojdmdnkeaaaGreatDoor
namespace Go.Proofs.YtbgpojdmdnkeaaaGreatDoor
open Go.Abs
set_option linter.unusedSimpArgs false
set_option linter.unusedVariables false
end Go.Proofs.YtbgpojdmdnkeaaaGreatDoor
namespace Go.Proofs.YtbgpojdmdnkeaaaGreatDoor
open Go.Abs
set_option linter.unusedSimpArgs false
set_option linter.unusedVariables false
/-! hexadecimal -/
/-! lines -/
end Go.Proofs.YtbgpojdmdnkeaaaGreatDoor
namespace Go.Proofs.YtbgpojdmdnkeaaaGreatDoor
open Go.Abs
set_option linter.unusedSimpArgs false
set_option linter.unusedVariables false
theorem num_at {p : S_api_Playlist} (h : VP p) : ∀ (k : Nat) (hk : k < p.L.length), p.L[k].Num = p.First + k
  | 0, hk => by simpa using h.2.2.2.1 hk
  | k + 1, hk => by
    have := num_at h k (by omega)
    have := (h.2.2.2.2.2 k hk).1
    omega
theorem same_refl (p : S_api_Playlist) (hl : p.L.length ≤ 4294967296) (n : Nat) (hn : p.L.length < n) : ref43_Same n p p = some true := by
  unfold ref43_Same
  have e : ((decide (p.First ≠ p.First) || (!(p.Done == p.Done))) || decide ((p.L.length : Int) ≠ (p.L.length : Int))) = false := by simp
  rw [e, cond_false]
  rw [iter_allgo (step := ref43_Same_L1 p p) p.L.length (.go ()) (fun i hi => by
    unfold ref43_Same_L1
    have e : decide ((i : Int) < (p.L.length : Int)) = true := by simpa using hi
    rw [e, cond_true, idx_get' hi, idx_get' hi]
    simp only [decide_true, Bool.and_true, Bool.not_true, cond_false]
    rw [w64 (by omega) (by omega)]; rfl) (by unfold ref43_Same_L1; simp) n hn]
  rfl
end Go.Proofs.YtbgpojdmdnkeaaaGreatDoor
