/-
  Texts that stand side by side: AbsPlain, Pa, Pg, G5a, Ph, W5, Pi, Pj, W6, Pk, Pb, Pc, Pd, Pe, W4, Pf, G3a.
-/
import Derived.Test.YtbgpojdmdnkeaaaDoorM1
import Derived.Test.YtbgpojdmdnkeaaaDoorFe
namespace Go.Abs
@[simp] theorem bindJ_go {S R : Type} (s : S) (k : S → Option R) : bindJ (some (.go s)) k = k s := rfl
@[simp] theorem bindJ_stop {S R : Type} (r : R) (k : S → Option R) : bindJ (some (.stop r)) k = some r := rfl
@[simp] theorem bindJ_none {S R : Type} (k : S → Option R) : bindJ (none : Option (Lp S R)) k = none := rfl
theorem need_pos {α : Type} {p : Prop} [Decidable p] (h : p) (x : Option α) : need p x = x := by simp [need, h]
theorem idx_get {α β : Type} {l : List α} {i : Nat} {x : α} (h : l[i]? = some x) (k : α → Option β) : idx l (i : Int) k = k x := by simp [idx, h]
theorem idx_get' {α β : Type} {l : List α} {i : Nat} (h : i < l.length) (k : α → Option β) : idx l (i : Int) k = k l[i] := idx_get (List.getElem?_eq_getElem h) k
theorem iter_go {S R : Type} {step : S → Option (Lp S R)} {n : Nat} {s s' : S} (h : step s = some (.go s')) : iter step (n + 1) s = iter step n s' := by simp [iter, h]
theorem iter_stop {S R : Type} {step : S → Option (Lp S R)} {n : Nat} {s : S} {r : R} (h : step s = some (.stop r)) : iter step (n + 1) s = some r := by simp [iter, h]
/-- a loop by an invariant and a measure -/
theorem iter_inv {S R : Type} {step : S → Option (Lp S R)} (inv : S → Prop) (μ : S → Nat) (post : R → Prop)
    (h : ∀ s, inv s → (∃ s', step s = some (.go s') ∧ inv s' ∧ μ s' < μ s) ∨ (∃ r, step s = some (.stop r) ∧ post r)) :
    ∀ (n : Nat) (s : S), inv s → μ s < n → ∃ r, iter step n s = some r ∧ post r
  | 0, s, _, hm => by omega
  | n + 1, s, hi, hm => by
    rcases h s hi with ⟨s', h1, h2, h3⟩ | ⟨r, h1, h2⟩
    · obtain ⟨r, h4, h5⟩ := iter_inv inv μ post h n s' h2 (by omega)
      exact ⟨r, by rw [iter_go h1, h4], h5⟩
    · exact ⟨r, iter_stop h1, h2⟩
theorem w64 {x : Int} (h1 : -9223372036854775808 ≤ x) (h2 : x ≤ 9223372036854775807) : IntKind.i64.wrap x = x := wrap_i64 h1 h2
end Go.Abs
namespace Go.Abs
/-- a walk along a list that may stop -/
def foldL {α S R : Type} (f : S → α → Lp S R) (fin : S → R) : S → List α → R
  | s, [] => fin s
  | s, x :: r => match f s x with
    | .go s' => foldL f fin s' r
    | .stop q => q
def Lp.mapS {S T R : Type} (g : S → T) : Lp S R → Lp T R
  | .go s => .go (g s)
  | .stop r => .stop r
@[simp] theorem mapS_go {S T R : Type} (g : S → T) (s : S) : (Lp.go s : Lp S R).mapS g = .go (g s) := rfl
@[simp] theorem mapS_stop {S T R : Type} (g : S → T) (r : R) : (Lp.stop r : Lp S R).mapS g = .stop r := rfl
/-- a loop that counts along a list -/
theorem iter_fold {α S T R : Type} {step : T → Option (Lp T R)} {l : List α} (mk : Nat → S → T) (f : S → α → Lp S R) (fin : S → R) (inv : Nat → S → Prop)
    (hgo : ∀ i s x, inv i s → l[i]? = some x → step (mk i s) = some ((f s x).mapS (mk (i + 1))) ∧ ∀ s', f s x = .go s' → inv (i + 1) s')
    (hend : ∀ s, inv l.length s → step (mk l.length s) = some (.stop (fin s))) :
    ∀ (n i : Nat) (s : S), inv i s → i ≤ l.length → l.length - i < n → iter step n (mk i s) = some (foldL f fin s (l.drop i))
  | 0, i, s, _, _, h => by omega
  | n + 1, i, s, hi, hle, h => by
    by_cases e : i = l.length
    · subst e
      rw [iter_stop (hend s hi), List.drop_length]; rfl
    · have hlt : i < l.length := by omega
      obtain ⟨h1, h2⟩ := hgo i s _ hi (List.getElem?_eq_getElem hlt)
      rw [List.drop_eq_getElem_cons hlt]
      cases hf : f s l[i] with
      | go s' =>
        rw [hf] at h1
        rw [iter_go h1, iter_fold mk f fin inv hgo hend n (i + 1) s' (h2 s' hf) (by omega) (by omega)]
        simp [foldL, hf]
      | stop q =>
        rw [hf] at h1
        rw [iter_stop h1]
        simp [foldL, hf]
end Go.Abs
namespace Go.Abs
theorem foldL_gom {α S R : Type} {f : S → α → Lp S R} {fin : S → R} (g : S → α → S) : ∀ (l : List α) (s : S), (∀ s x, x ∈ l → f s x = .go (g s x)) → foldL f fin s l = fin (l.foldl g s)
  | [], s, _ => rfl
  | x :: r, s, h => by
    simp only [foldL, h s x (List.mem_cons_self ..), List.foldl_cons]
    exact foldL_gom g r _ (fun s y hy => h s y (List.mem_cons_of_mem _ hy))
/-- a loop that counts up to N -/
theorem iter_range {S T R : Type} {step : T → Option (Lp T R)} (N : Nat) (mk : Nat → S → T) (f : S → Nat → Lp S R) (fin : S → R) (inv : Nat → S → Prop)
    (hgo : ∀ i s, inv i s → i < N → step (mk i s) = some ((f s i).mapS (mk (i + 1))) ∧ ∀ s', f s i = .go s' → inv (i + 1) s')
    (hend : ∀ s, inv N s → step (mk N s) = some (.stop (fin s))) (n : Nat) (s : S) (h0 : inv 0 s) (hn : N < n) : iter step n (mk 0 s) = some (foldL f fin s (List.range N)) := by
  have := iter_fold (l := List.range N) mk f fin inv (fun i s x hi hx => by
    have hlt := (List.getElem?_eq_some_iff.1 hx).1
    simp at hlt
    have : x = i := by simp [hlt] at hx; exact hx.symm
    subst this
    exact hgo x s hi hlt) (fun s hs => by simpa using hend s (by simpa using hs)) n 0 s h0 (Nat.zero_le _) (by simpa using hn)
  simpa using this
theorem iter_allgo {R : Type} {step : Int → Option (Lp Int R)} (N : Nat) (q : R) (h : ∀ i : Nat, i < N → step (i : Int) = some (.go ((i + 1 : Nat) : Int))) (he : step (N : Int) = some (.stop q)) (n : Nat) (hn : N < n) : iter step n 0 = some q := by
  have := iter_range (step := step) N (fun (i : Nat) (_ : Unit) => (i : Int)) (fun _ _ => Lp.go ()) (fun _ => q) (fun _ _ => True) (fun i s _ hi => ⟨h i hi, fun _ _ => trivial⟩) (fun s _ => he) n () trivial hn
  rw [foldL_gom (fun _ _ => ()) _ _ (fun _ _ _ => rfl)] at this
  exact this
end Go.Abs
namespace Go.Proofs.YtbgpojdmdnkeaaaDoor
open Go.Abs
set_option linter.unusedSimpArgs false
set_option linter.unusedVariables false
theorem sane (n : Nat) : law43_sanity (n + 40) = some true := by kernel_rfl
def okSeg (s : S_api_Segment) : Prop := 0 ≤ s.Num ∧ s.Num ≤ 1099511627776 ∧ 0 ≤ s.Begin ∧ s.Begin ≤ 1099511627776 ∧ 1 ≤ s.Len ∧ s.Len ≤ 60000 ∧ 0 ≤ s.Size ∧ s.Size ≤ 1099511627776
instance (s : S_api_Segment) : Decidable (okSeg s) := by unfold okSeg; exact inferInstance
theorem right_eq (s : S_api_Segment) : playlist_right s = some (decide (okSeg s)) := by
  unfold playlist_right
  congr 1
  rw [Bool.eq_iff_iff]
  simp only [Bool.and_eq_true, decide_eq_true_eq]
  unfold okSeg
  omega
def joins (a b : S_api_Segment) : Prop := b.Num = a.Num + 1 ∧ b.Begin = a.Begin + a.Len
instance (a b : S_api_Segment) : Decidable (joins a b) := by unfold joins; exact inferInstance
theorem end_eq {s : S_api_Segment} (h : okSeg s) : playlist_end s = some (s.Begin + s.Len) := by
  unfold playlist_end
  unfold okSeg at h
  rw [w64 (by omega) (by omega)]
def Strm (l : List S_api_Segment) : Prop := (∀ i (h : i < l.length), okSeg l[i]) ∧ ∀ i (h : i + 1 < l.length), joins l[i] l[i + 1]
theorem stream_loop (l : List S_api_Segment) (hl : l.length ≤ 4294967296) (n : Nat) (hn : l.length < n) :
    ∃ r, iter (playlist_stream_L1 l) n 0 = some r ∧ ((r = .go () ∧ Strm l) ∨ (r = .stop false ∧ ¬ Strm l)) := by
  refine iter_inv (step := playlist_stream_L1 l) (fun s : Int => ∃ i : Nat, s = i ∧ i ≤ l.length ∧ (∀ j (h : j < l.length), j < i → okSeg l[j]) ∧ ∀ j (h : j + 1 < l.length), j + 1 < i → joins l[j] l[j + 1]) (fun s => l.length - s.toNat) _ ?_ n 0 ⟨0, rfl, Nat.zero_le _, fun j h hj => by omega, fun j h hj => by omega⟩ (by simpa using hn)
  rintro s ⟨i, rfl, hi, hok, hj⟩
  unfold playlist_stream_L1
  by_cases hlt : i < l.length
  · have e : decide ((i : Int) < (l.length : Int)) = true := by simpa using hlt
    simp only [e, cond_true]
    rw [idx_get' hlt, right_eq]
    simp only [obind, Option.bind_some]
    by_cases hk : okSeg l[i]
    · simp only [hk, decide_true, Bool.not_true, cond_false]
      by_cases h0 : i = 0
      · subst h0
        left
        refine ⟨1, by simp [w64], ⟨1, rfl, by omega, fun j h hj' => ?_, fun j h hj' => by omega⟩, by simp; omega⟩
        obtain rfl : j = 0 := by omega
        exact hk
      · have e1 : decide (0 < (i : Int)) = true := by simp; omega
        simp only [e1, cond_true]
        have hp : i - 1 < l.length := by omega
        rw [w64 (x := (i : Int) - 1) (by omega) (by omega), show (i : Int) - 1 = ((i - 1 : Nat) : Int) by omega, idx_get' hp]
        have hkp := hok (i - 1) hp (by omega)
        rw [end_eq hkp]
        have hkp' := hkp
        unfold okSeg at hkp'
        rw [w64 (x := l[i - 1].Num + 1) (by omega) (by omega)]
        simp only [obind, Option.bind_some]
        by_cases hjn : joins l[i - 1] l[i]
        · left
          obtain ⟨j1, j2⟩ := hjn
          refine ⟨((i + 1 : Nat) : Int), ?_, ⟨i + 1, rfl, by omega, fun j h hj' => ?_, fun j h hj' => ?_⟩, by simp; omega⟩
          · simp only [j1, j2, ne_eq, not_true_eq_false, decide_false, cond_false, bindJ_go]
            rw [w64 (x := (i : Int) + 1) (by omega) (by omega)]; rfl
          · by_cases e : j = i
            · subst e; exact hk
            · exact hok j h (by omega)
          · by_cases e : j + 1 = i
            · subst e; exact ⟨j1, j2⟩
            · exact hj j h (by omega)
        · right
          refine ⟨.stop false, ?_, .inr ⟨rfl, fun hS => hjn ?_⟩⟩
          · by_cases hn : l[i].Num = l[i - 1].Num + 1
            · have hb : ¬ l[i].Begin = l[i - 1].Begin + l[i - 1].Len := fun h => hjn ⟨hn, h⟩
              simp [hn, hb]
            · simp [hn]
          · have := hS.2 (i - 1) (by omega)
            simpa [show i - 1 + 1 = i by omega] using this
    · right
      refine ⟨.stop false, by simp [hk], .inr ⟨rfl, fun hS => hk (hS.1 i hlt)⟩⟩
  · have e : decide ((i : Int) < (l.length : Int)) = false := by simp; omega
    right
    exact ⟨.go (), by simp only [e, cond_false], .inl ⟨rfl, fun j h => hok j h (by omega), fun j h => hj j h (by omega)⟩⟩
open Classical in
theorem stream_eq (l : List S_api_Segment) (hl : l.length ≤ 4294967296) (n : Nat) (hn : l.length < n) : playlist_stream n l = some (decide (Strm l ∧ l.length ≤ 1000)) := by
  unfold playlist_stream
  obtain ⟨r, e, h⟩ := stream_loop l hl n hn
  rw [e]
  rcases h with ⟨rfl, h⟩ | ⟨rfl, h⟩
  · have e1 : ((l.length : Int) ≤ 1000) ↔ (Strm l ∧ l.length ≤ 1000) := ⟨fun q => ⟨h, by omega⟩, fun q => by have := q.2; omega⟩
    simp only [bindJ_go, e1]
  · have e1 : ¬ (Strm l ∧ l.length ≤ 1000) := fun q => h q.1
    simp only [bindJ_stop, e1, decide_false]
def VP (p : S_api_Playlist) : Prop := 0 ≤ p.First ∧ p.First ≤ 1099511627776 ∧ p.L.length ≤ 100 ∧ (∀ h : 0 < p.L.length, p.L[0].Num = p.First) ∧ Strm p.L
open Classical in
theorem valid_eq (p : S_api_Playlist) (n : Nat) (hn : 101 < n) : playlist_Valid n p = some (decide (VP p)) := by
  unfold playlist_Valid
  by_cases h1 : 0 ≤ p.First ∧ p.First ≤ 1099511627776 ∧ p.L.length ≤ 100
  · obtain ⟨a1, a2, a3⟩ := h1
    have e : ((decide (0 ≤ p.First) && decide (p.First ≤ 1099511627776)) && decide ((p.L.length : Int) ≤ 100)) = true := by simp only [Bool.and_eq_true, decide_eq_true_eq]; omega
    rw [e]
    simp only [cond_true]
    rw [stream_eq p.L (by omega) n (by omega)]
    have hS : (Strm p.L ∧ p.L.length ≤ 1000) ↔ Strm p.L := ⟨fun q => q.1, fun q => ⟨q, by omega⟩⟩
    by_cases h0 : p.L.length = 0
    · have e0 : decide ((p.L.length : Int) = 0) = true := decide_eq_true (by omega)
      have hV : VP p ↔ Strm p.L := ⟨fun h => h.2.2.2.2, fun h => ⟨a1, a2, a3, fun h' => absurd h' (by omega), h⟩⟩
      simp only [e0, cond_true, bindJ_go, obind, Option.bind_some, hS, hV]
    · have e0 : decide ((p.L.length : Int) = 0) = false := decide_eq_false (by omega)
      have hp : 0 < p.L.length := by omega
      simp only [e0, cond_false]
      rw [show (0 : Int) = ((0 : Nat) : Int) from rfl, idx_get' hp]
      by_cases hf : p.L[0].Num = p.First
      · have hV : VP p ↔ Strm p.L := ⟨fun h => h.2.2.2.2, fun h => ⟨a1, a2, a3, fun h' => hf, h⟩⟩
        simp only [hf, decide_true, bindJ_go, cond_true, obind, Option.bind_some, hS, hV]
      · have hV : ¬ VP p := fun h => hf (h.2.2.2.1 hp)
        simp only [hf, decide_false, bindJ_go, cond_false, hV]
  · have e : ((decide (0 ≤ p.First) && decide (p.First ≤ 1099511627776)) && decide ((p.L.length : Int) ≤ 100)) = false := by
      rw [Bool.eq_false_iff]; intro h; simp only [Bool.and_eq_true, decide_eq_true_eq] at h; omega
    have hV : ¬ VP p := fun h => h1 ⟨h.1, h.2.1, h.2.2.1⟩
    simp only [e, cond_false, bindJ_go, hV, decide_false]
theorem next_eq {p : S_api_Playlist} (h : VP p) : playlist_Next p = some (p.First + p.L.length) := by
  unfold playlist_Next
  have := h.2.2.1
  have := h.1
  have := h.2.1
  rw [w64 (by omega) (by omega)]
end Go.Proofs.YtbgpojdmdnkeaaaDoor
namespace Go.Proofs.YtbgpojdmdnkeaaaDoor
open Go.Abs
set_option linter.unusedSimpArgs false
set_option linter.unusedVariables false
def sEnd (l : List S_api_Segment) (i : Nat) : Int := ((l[i]?).map fun s => s.Begin + s.Len).getD 0
theorem sEnd_at {l : List S_api_Segment} {i : Nat} (h : i < l.length) : sEnd l i = l[i].Begin + l[i].Len := by unfold sEnd; rw [List.getElem?_eq_getElem h]; rfl
theorem end_get {l : List S_api_Segment} (hs : Strm l) {i : Nat} (h : i < l.length) : playlist_end l[i] = some (sEnd l i) := by
  rw [end_eq (hs.1 i h), sEnd_at h]
end Go.Proofs.YtbgpojdmdnkeaaaDoor
namespace Go.Proofs.YtbgpojdmdnkeaaaDoor
open Go.Abs
set_option linter.unusedVariables false
set_option linter.unusedSimpArgs false
set_option maxRecDepth 20000
set_option maxHeartbeats 4000000

end Go.Proofs.YtbgpojdmdnkeaaaDoor
namespace Go.Proofs.YtbgpojdmdnkeaaaDoor
open Go.Abs
set_option linter.unusedSimpArgs false
set_option linter.unusedVariables false
theorem cut_id (p : S_api_Playlist) (w : Int) (hw0 : 0 ≤ w) (hw : w ≤ 1000000) (hl : p.L.length ≤ 1000000) (hf : -4611686018427387904 ≤ p.First ∧ p.First ≤ 4611686018427387904) :
    playlist_cut p w = some ⟨p.First + max 0 ((p.L.length : Int) - w), p.L.drop (max 0 ((p.L.length : Int) - w)).toNat, p.Done⟩ := by
  unfold playlist_cut
  rw [w64 (x := (p.L.length : Int) - w) (by omega) (by omega), need_pos (by omega), w64 (by omega) (by omega)]
theorem clone_eq (l : List S_api_Segment) (h : l.length ≤ 4294967296) : slices_Clone_weirgate_api_Segment_weirgate_api_Segment_28 l = some l := by
  unfold slices_Clone_weirgate_api_Segment_weirgate_api_Segment_28
  rw [need_pos (by simpa using h)]; rfl
/-! the depths of the places -/
end Go.Proofs.YtbgpojdmdnkeaaaDoor
namespace Go.Proofs.YtbgpojdmdnkeaaaDoor
open Go.Abs
set_option linter.unusedVariables false
set_option linter.unusedSimpArgs false
set_option maxRecDepth 20000
set_option maxHeartbeats 4000000

end Go.Proofs.YtbgpojdmdnkeaaaDoor
namespace Go.Proofs.YtbgpojdmdnkeaaaDoor
open Go.Abs
set_option linter.unusedSimpArgs false
set_option linter.unusedVariables false
end Go.Proofs.YtbgpojdmdnkeaaaDoor
namespace Go.Proofs.YtbgpojdmdnkeaaaDoor
open Go.Abs
set_option linter.unusedSimpArgs false
set_option linter.unusedVariables false
theorem dig_ext {a b : S_api_Digest} (h : a.toL = b.toL) : a = b := by
  cases a; cases b
  simp only [S_api_Digest.toL, List.cons.injEq, and_true] at h
  obtain ⟨e0, e1, e2, e3, e4, e5, e6, e7, e8, e9, e10, e11, e12, e13, e14, e15⟩ := h
  subst_vars
  rfl
theorem seg_same (a b : S_api_Segment) : (decide (a.Num = b.Num) && (decide (a.Begin = b.Begin) && (decide (a.Len = b.Len) && (decide (S_api_Digest.toL a.Body = S_api_Digest.toL b.Body) && (decide (a.Size = b.Size)))))) = true ↔ a = b := by
  simp only [Bool.and_eq_true, decide_eq_true_eq]
  constructor
  · rintro ⟨h1, h2, h3, h4, h5⟩
    cases a; cases b
    simp only at h1 h2 h3 h4 h5
    have := dig_ext h4
    subst_vars
    rfl
  · rintro rfl; simp
theorem find_loop (l : List S_api_Segment) (hl : l.length ≤ 1000000) (k : Int) (n : Nat) (hn : l.length < n) :
    ∃ r, slices_IndexFunc_weirgate_api_Segment_weirgate_api_Segment_56 n l k = some r ∧ ((r = -1 ∧ ∀ s ∈ l, s.Num ≠ k) ∨ ∃ (i : Nat) (h : i < l.length), r = i ∧ l[i].Num = k ∧ ∀ j (hj : j < l.length), j < i → l[j].Num ≠ k) := by
  unfold slices_IndexFunc_weirgate_api_Segment_weirgate_api_Segment_56
  obtain ⟨r, e, h⟩ := iter_inv (step := slices_IndexFunc_weirgate_api_Segment_weirgate_api_Segment_56_L1 l k) (fun s => ∃ i : Nat, s = (i : Int) ∧ i ≤ l.length ∧ ∀ j (hj : j < l.length), j < i → l[j].Num ≠ k) (fun s => l.length - s.toNat)
    (fun r => (r = .go () ∧ ∀ s ∈ l, s.Num ≠ k) ∨ ∃ (i : Nat) (h : i < l.length), r = .stop (i : Int) ∧ l[i].Num = k ∧ ∀ j (hj : j < l.length), j < i → l[j].Num ≠ k) (by
    rintro s ⟨i, rfl, hi, hj⟩
    unfold slices_IndexFunc_weirgate_api_Segment_weirgate_api_Segment_56_L1 playlist_Find_1_47
    by_cases hlt : i < l.length
    · rw [decide_eq_true (by omega), cond_true, idx_get' hlt]
      simp only [obind, Option.bind_some]
      by_cases hk : l[i].Num = k
      · rw [decide_eq_true hk]
        exact .inr ⟨_, rfl, .inr ⟨i, hlt, rfl, hk, hj⟩⟩
      · rw [decide_eq_false hk, cond_false, w64 (by omega) (by omega)]
        refine .inl ⟨((i + 1 : Nat) : Int), rfl, ⟨i + 1, rfl, by omega, fun j a b => ?_⟩, by simp; omega⟩
        by_cases ej : j = i
        · subst ej; exact hk
        · exact hj j a (by omega)
    · rw [decide_eq_false (by omega), cond_false]
      refine .inr ⟨_, rfl, .inl ⟨rfl, fun s hs => ?_⟩⟩
      obtain ⟨j, a, rfl⟩ := List.getElem_of_mem hs
      exact hj j a (by omega)) n 0 ⟨0, rfl, by omega, fun j a b => by omega⟩ (by simpa using hn)
  rw [e]
  rcases h with ⟨rfl, h⟩ | ⟨i, h1, rfl, h2, h3⟩
  · exact ⟨-1, rfl, .inl ⟨rfl, h⟩⟩
  · exact ⟨_, rfl, .inr ⟨i, h1, rfl, h2, h3⟩⟩
def zeroSeg : S_api_Segment := ⟨0, 0, 0, ⟨0, 0, 0, 0, 0, 0, 0, 0, 0, 0, 0, 0, 0, 0, 0, 0⟩, 0⟩
theorem find_eq (p : S_api_Playlist) (hl : p.L.length ≤ 1000000) (k : Int) (n : Nat) (hn : p.L.length < n) :
    (playlist_Find n p k = some (zeroSeg, 5) ∧ ∀ s ∈ p.L, s.Num ≠ k) ∨ ∃ (i : Nat) (h : i < p.L.length), playlist_Find n p k = some (p.L[i], 0) ∧ p.L[i].Num = k ∧ ∀ j (hj : j < p.L.length), j < i → p.L[j].Num ≠ k := by
  unfold playlist_Find playlist_one
  obtain ⟨r, e, h⟩ := find_loop p.L hl k n hn
  rw [e]
  rcases h with ⟨rfl, h⟩ | ⟨i, h1, rfl, h2, h3⟩
  · exact .inl ⟨rfl, h⟩
  · refine .inr ⟨i, h1, ?_, h2, h3⟩
    simp only [obind, Option.bind_some]
    rw [decide_eq_true (by omega), cond_true, idx_get' h1]
    rfl
def nextP (p : S_api_Playlist) : Int := p.First + p.L.length
def edgeP (p : S_api_Playlist) : Int := sEnd p.L (p.L.length - 1)
def beginP (p : S_api_Playlist) : Int := ((p.L[0]?).map (·.Begin)).getD 0
/-- what one playlist has, the other has, too, or does not speak of it -/
def Agree (e l : S_api_Playlist) : Prop := ∀ i (hi : i < e.L.length) j (hj : j < l.L.length), e.L[i].Num = l.L[j].Num → l.L[j] = e.L[i]
theorem merge_loop (e l : S_api_Playlist) (hl : VP l) (he : e.L.length ≤ 1000) (n : Nat) (hn : 1000 < n) :
    (iter (playlist_Merge_L1 n e.L l.First l.L l.Done) n 0 = some (.go ()) ∧ Agree e l) ∨ (iter (playlist_Merge_L1 n e.L l.First l.L l.Done) n 0 = some (.stop (⟨0, [], false⟩, 430)) ∧ ¬ Agree e l) := by
  have hL := hl.2.2.1
  have inj : ∀ i (hi : i < l.L.length) j (hj : j < l.L.length), l.L[i].Num = l.L[j].Num → i = j := by
    have num : ∀ (k : Nat) (hk : k < l.L.length), l.L[k].Num = l.First + k := by
      intro k
      induction k with
      | zero => intro hk; simpa using hl.2.2.2.1 hk
      | succ k ih => intro hk; have := ih (by omega); have := (hl.2.2.2.2.2 k hk).1; omega
    intro i hi j hj h
    rw [num i hi, num j hj] at h
    omega
  obtain ⟨r, e1, h⟩ := iter_inv (step := playlist_Merge_L1 n e.L l.First l.L l.Done) (fun s => ∃ i : Nat, s = (i : Int) ∧ i ≤ e.L.length ∧ ∀ k (hk : k < e.L.length), k < i → ∀ j (hj : j < l.L.length), e.L[k].Num = l.L[j].Num → l.L[j] = e.L[k]) (fun s => e.L.length - s.toNat)
    (fun r => (r = .go () ∧ Agree e l) ∨ (r = .stop (⟨0, [], false⟩, 430) ∧ ¬ Agree e l)) (by
    rintro s ⟨i, rfl, hi, hj⟩
    unfold playlist_Merge_L1
    by_cases hlt : i < e.L.length
    · rw [decide_eq_true (by omega), cond_true, idx_get' hlt]
      have next : (∀ j (hj : j < l.L.length), e.L[i].Num = l.L[j].Num → l.L[j] = e.L[i]) → ∀ k (hk : k < e.L.length), k < i + 1 → ∀ j (hj : j < l.L.length), e.L[k].Num = l.L[j].Num → l.L[j] = e.L[k] := by
        intro hh k hk hki
        by_cases ek : k = i
        · subst ek; exact hh
        · exact hj k hk (by omega)
      rcases find_eq ⟨l.First, l.L, l.Done⟩ (by show l.L.length ≤ _; omega) e.L[i].Num n (by show l.L.length < _; omega) with ⟨f1, f2⟩ | ⟨j, f1, f2, f3, f4⟩
      · rw [f1]
        simp only [obind, Option.bind_some]
        rw [decide_eq_false (show ¬ (5 : Int) = 0 by decide), Bool.false_and, cond_false, w64 (by omega) (by omega)]
        exact .inl ⟨_, rfl, ⟨i + 1, rfl, by omega, next fun j hj h => absurd h.symm (f2 _ (List.getElem_mem hj))⟩, by simp; omega⟩
      · rw [f2]
        simp only [obind, Option.bind_some, decide_true, Bool.true_and]
        have f1' : j < l.L.length := f1
        by_cases hs : l.L[j] = e.L[i]
        · rw [(seg_same _ _).2 hs, Bool.not_true, cond_false, w64 (by omega) (by omega)]
          refine .inl ⟨_, rfl, ⟨i + 1, rfl, by omega, next fun q hq h => ?_⟩, by simp; omega⟩
          have : j = q := inj j f1' q hq (f3.trans h)
          subst this
          exact hs
        · rw [Bool.eq_false_iff.2 fun h => hs ((seg_same _ _).1 h), Bool.not_false, cond_true]
          exact .inr ⟨_, rfl, .inr ⟨rfl, fun hA => hs (hA i hlt j f1' f3.symm)⟩⟩
    · rw [decide_eq_false (by omega), cond_false]
      exact .inr ⟨_, rfl, .inl ⟨rfl, fun k hk => hj k hk (by omega)⟩⟩) n 0 ⟨0, rfl, by omega, fun k a b => by omega⟩ (by simp; omega)
  rcases h with ⟨rfl, h⟩ | ⟨rfl, h⟩
  · exact .inl ⟨e1, h⟩
  · exact .inr ⟨e1, h⟩
def Meet (e l : S_api_Playlist) : Prop := 0 < e.L.length ∧ 0 < l.L.length ∧ l.First ≤ nextP e
def cutP (p : S_api_Playlist) (w : Int) : S_api_Playlist := ⟨p.First + max 0 ((p.L.length : Int) - w), p.L.drop (max 0 ((p.L.length : Int) - w)).toNat, p.Done⟩
def joinEL (e l : S_api_Playlist) (done : Bool) : S_api_Playlist := ⟨l.First - max 0 (l.First - e.First), e.L.take (max 0 (l.First - e.First)).toNat ++ l.L, done⟩
open Classical in
/-- an earlier and a later playlist together -/
noncomputable def mergeEL (e l : S_api_Playlist) (done : Bool) (w : Int) : S_api_Playlist × Int :=
  if e.Done = true ∧ nextP e < nextP l then (⟨0, [], false⟩, 430)
  else if ¬ Agree e l then (⟨0, [], false⟩, 430)
  else if Meet e l then (if nextP e = l.First ∧ edgeP e ≠ beginP l then (⟨0, [], false⟩, 430) else (cutP (joinEL e l done) w, 0))
  else (cutP ⟨l.First, l.L, done⟩ w, 0)
open Classical in
noncomputable def mergeP (a b : S_api_Playlist) (w : Int) : S_api_Playlist × Int :=
  if 1 ≤ w ∧ w ≤ 100 then (if nextP a < nextP b then mergeEL a b (a.Done || b.Done) w else mergeEL b a (a.Done || b.Done) w) else (⟨0, [], false⟩, 1)
theorem next_at {p : S_api_Playlist} (h : VP p) : playlist_Next ⟨p.First, p.L, p.Done⟩ = some (nextP p) := next_eq h
theorem edge_eq {p : S_api_Playlist} (h : VP p) (h0 : 0 < p.L.length) : playlist_Edge ⟨p.First, p.L, p.Done⟩ = some (edgeP p) := by
  have hL := h.2.2.1
  unfold playlist_Edge edgeP
  simp only
  rw [decide_eq_false (by omega), cond_false, w64 (by omega) (by omega), show (p.L.length : Int) - 1 = ((p.L.length - 1 : Nat) : Int) by omega, idx_get' (by omega), end_get h.2.2.2.2 (by omega)]
  rfl
open Classical in
theorem mergeEL_eq (e l : S_api_Playlist) (he : VP e) (hl : VP l) (hle : nextP e ≤ nextP l) (done : Bool) (w : Int) (hw0 : 1 ≤ w) (hw1 : w ≤ 100) (n : Nat) (hn : 1000 < n) (R : Option (S_api_Playlist × Int))
    (hR : R = bindJ (S := Bool)
    (cond e.Done
     (obind (playlist_Next (S_api_Playlist.mk e.First e.L e.Done)) fun r43 =>
     obind (playlist_Next (S_api_Playlist.mk l.First l.L l.Done)) fun r45 =>
     some (.go (decide (r43 < r45))))
     (some (.go false)))
   (fun b37 =>
    cond b37
     (some ((S_api_Playlist.mk 0 ([] : List S_api_Segment) false), 430))
     (bindJ (S := Unit)
      (iter (playlist_Merge_L1 n e.L l.First l.L l.Done) n 0)
     (fun _ =>
      obind (slices_Clone_weirgate_api_Segment_weirgate_api_Segment_28 l.L) fun r67 =>
      bindJ (S := Int × (List S_api_Segment))
       (bindJ (S := Bool)
        (cond (decide (0 < (e.L.length : Int)) && decide (0 < (l.L.length : Int)))
         (obind (playlist_Next (S_api_Playlist.mk e.First e.L e.Done)) fun r99 =>
         some (.go (decide (l.First ≤ r99))))
         (some (.go false)))
       (fun b93 =>
        cond b93
         (obind (playlist_Next (S_api_Playlist.mk e.First e.L e.Done)) fun r102 =>
         bindJ (S := Bool)
          (cond (decide (r102 = l.First))
           (idx l.L 0 fun x110 =>
           obind (playlist_Edge (S_api_Playlist.mk e.First e.L e.Done)) fun r111 =>
           some (.go (decide (r111 ≠ x110.Begin))))
           (some (.go false)))
         (fun b104 =>
          cond b104
           (some (.stop ((S_api_Playlist.mk 0 ([] : List S_api_Segment) false), 430)))
           (need (0 ≤ (0 : Int) ∧ 0 ≤ (max 0 (IntKind.i64.wrap (l.First - e.First))) ∧ (max 0 (IntKind.i64.wrap (l.First - e.First))) ≤ (e.L.length : Int)) (
           obind (slices_Clone_weirgate_api_Segment_weirgate_api_Segment_28 (e.L.take (((max 0 (IntKind.i64.wrap (l.First - e.First)))).toNat))) fun r115 =>
           need (r115.length + l.L.length ≤ 4294967296) (
           some (.go ((IntKind.i64.wrap (l.First - (max 0 (IntKind.i64.wrap (l.First - e.First))))), (r115 ++ l.L))))))))
         (some (.go (l.First, r67)))))
      (fun (x_83, x_84) =>
       obind (playlist_cut (S_api_Playlist.mk x_83 x_84 done) w) fun r121 =>
       some (r121, 0)))))) : R = some (mergeEL e l done w) := by
  rw [hR]; clear hR R
  have e1 := he.1; have e2 := he.2.1; have e3 := he.2.2.1
  have l1 := hl.1; have l2 := hl.2.1; have l3 := hl.2.2.1
  rw [next_at he, next_at hl]
  have cut : ∀ (f : Int) (L : List S_api_Segment), -4611686018427387904 ≤ f ∧ f ≤ 4611686018427387904 → L.length ≤ 1000000 → (obind (playlist_cut ⟨f, L, done⟩ w) fun r121 => some (r121, (0 : Int))) = some (cutP ⟨f, L, done⟩ w, 0) := by
    intro f L hf hL
    rw [cut_id _ w (by omega) (by omega) hL hf]
    rfl
  unfold mergeEL
  by_cases hd : e.Done = true ∧ nextP e < nextP l
  · rw [if_pos hd, hd.1]
    simp only [cond_true, obind, Option.bind_some, bindJ_go, hd.2, decide_true]
  · rw [if_neg hd]
    have hd' : bindJ (S := Bool) (R := S_api_Playlist × Int) (cond e.Done (obind (some (nextP e)) fun r43 => obind (some (nextP l)) fun r45 => some (.go (decide (r43 < r45)))) (some (.go false))) = fun k => k false := by
      funext k
      cases hD : e.Done with
      | false => rfl
      | true =>
        have : ¬ nextP e < nextP l := fun h => hd ⟨hD, h⟩
        simp only [cond_true, obind, Option.bind_some, bindJ_go, decide_eq_false this]
    rw [hd']
    simp only [cond_false]
    rcases merge_loop e l hl (by omega) n hn with ⟨h1, h2⟩ | ⟨h1, h2⟩
    · rw [h1, if_neg (fun h => h h2)]
      simp only [bindJ_go]
      rw [clone_eq _ (by omega)]
      simp only [obind, Option.bind_some]
      by_cases hm : Meet e l
      · obtain ⟨m1, m2, m3⟩ := hm
        rw [if_pos ⟨m1, m2, m3⟩, decide_eq_true (show (0 : Int) < (e.L.length : Int) by omega), decide_eq_true (show (0 : Int) < (l.L.length : Int) by omega)]
        simp only [Bool.and_true, cond_true, bindJ_go, decide_eq_true m3]
        have hbf : max 0 (l.First - e.First) ≤ (e.L.length : Int) := by unfold nextP at m3; omega
        have fin : (need (0 ≤ (0 : Int) ∧ 0 ≤ (max 0 (IntKind.i64.wrap (l.First - e.First))) ∧ (max 0 (IntKind.i64.wrap (l.First - e.First))) ≤ (e.L.length : Int)) (
           (slices_Clone_weirgate_api_Segment_weirgate_api_Segment_28 (e.L.take (((max 0 (IntKind.i64.wrap (l.First - e.First)))).toNat))).bind fun r115 =>
           need (r115.length + l.L.length ≤ 4294967296) (
           some (.go ((IntKind.i64.wrap (l.First - (max 0 (IntKind.i64.wrap (l.First - e.First))))), (r115 ++ l.L)) : Lp (Int × List S_api_Segment) (S_api_Playlist × Int))))) = some (.go ((joinEL e l done).First, (joinEL e l done).L)) := by
          rw [w64 (x := l.First - e.First) (by omega) (by omega), need_pos (by omega), clone_eq _ (by simp; omega)]
          simp only [Option.bind_some]
          rw [need_pos (by simp; omega), w64 (by omega) (by omega)]
          rfl
        have bs : playlist_Edge ⟨e.First, e.L, e.Done⟩ = some (edgeP e) := edge_eq he m1
        have jb : -4611686018427387904 ≤ (joinEL e l done).First ∧ (joinEL e l done).First ≤ 4611686018427387904 := by unfold joinEL; simp only; omega
        have jl : (joinEL e l done).L.length ≤ 1000000 := by unfold joinEL; simp; omega
        have last := cut (joinEL e l done).First (joinEL e l done).L jb jl
        simp only [obind] at last
        by_cases hn1 : nextP e = l.First
        · rw [decide_eq_true hn1]
          simp only [cond_true]
          rw [show (0 : Int) = ((0 : Nat) : Int) from rfl, idx_get' m2, bs]
          have hb : l.L[0].Begin = beginP l := by unfold beginP; rw [List.getElem?_eq_getElem m2]; rfl
          simp only [Option.bind_some, bindJ_go, hb]
          by_cases hg : edgeP e ≠ beginP l
          · rw [decide_eq_true hg, cond_true, if_pos ⟨hn1, hg⟩]; rfl
          · rw [decide_eq_false hg, cond_false, if_neg (fun h => hg h.2)]
            have fin' := fin
            simp only [show (0 : Int) = ((0 : Nat) : Int) from rfl] at fin' last ⊢
            rw [fin', bindJ_go]
            exact last
        · rw [decide_eq_false hn1]
          simp only [cond_false, bindJ_go]
          rw [if_neg (fun h => hn1 h.1), fin, bindJ_go]
          exact last
      · rw [if_neg hm]
        have hlast := cut l.First l.L (by omega) (by omega)
        simp only [obind] at hlast
        by_cases hz : 0 < e.L.length ∧ 0 < l.L.length
        · have h3 : ¬ l.First ≤ nextP e := fun h => hm ⟨hz.1, hz.2, h⟩
          rw [decide_eq_true (show (0 : Int) < (e.L.length : Int) by omega), decide_eq_true (show (0 : Int) < (l.L.length : Int) by omega)]
          simp only [Bool.and_true, cond_true, bindJ_go, decide_eq_false h3, cond_false]
          exact hlast
        · have : (decide (0 < (e.L.length : Int)) && decide (0 < (l.L.length : Int))) = false := by
            rw [Bool.eq_false_iff]; intro h; simp only [Bool.and_eq_true, decide_eq_true_eq] at h; omega
          rw [this]
          simp only [cond_false, bindJ_go]
          exact hlast
    · rw [h1, if_pos h2]
      rfl
theorem merge_eq (a b : S_api_Playlist) (ha : VP a) (hb : VP b) (w : Int) (n : Nat) (hn : 1000 < n) : playlist_Merge n a b w = some (mergeP a b w) := by
  unfold playlist_Merge mergeP
  by_cases hw : 1 ≤ w ∧ w ≤ 100
  · have e : (decide (w < 1) || decide (100 < w)) = false := by rw [Bool.eq_false_iff]; intro h; simp only [Bool.or_eq_true, decide_eq_true_eq] at h; omega
    rw [e, cond_false, if_pos hw]
    rw [show playlist_Next b = some (nextP b) from next_eq hb, show playlist_Next a = some (nextP a) from next_eq ha]
    by_cases hlt : nextP a < nextP b
    · rw [if_pos hlt]
      simp only [obind, Option.bind_some, decide_eq_true hlt, cond_true, bindJ_go]
      exact mergeEL_eq a b ha hb (by omega) (a.Done || b.Done) w hw.1 hw.2 n hn _ rfl
    · rw [if_neg hlt]
      simp only [obind, Option.bind_some, decide_eq_false hlt, cond_false, bindJ_go]
      exact mergeEL_eq b a hb ha (by omega) (a.Done || b.Done) w hw.1 hw.2 n hn _ rfl
  · have e : (decide (w < 1) || decide (100 < w)) = true := by simp only [Bool.or_eq_true, decide_eq_true_eq]; omega
    rw [e, cond_true, if_neg hw]
end Go.Proofs.YtbgpojdmdnkeaaaDoor
namespace Go.Proofs.YtbgpojdmdnkeaaaDoor
open Go.Abs
set_option linter.unusedVariables false
set_option linter.unusedSimpArgs false
set_option maxRecDepth 20000
set_option maxHeartbeats 4000000

end Go.Proofs.YtbgpojdmdnkeaaaDoor
namespace Go.Proofs.YtbgpojdmdnkeaaaDoor
open Go.Abs
set_option linter.unusedSimpArgs false
set_option linter.unusedVariables false
theorem num_stream {l : List S_api_Segment} (hs : Strm l) : ∀ i (h : i < l.length), l[i].Num = (l[0]'(by omega)).Num + i
  | 0, h => by simp
  | i + 1, h => by
    have := num_stream hs i (by omega)
    have := (hs.2 i h).1
    omega
end Go.Proofs.YtbgpojdmdnkeaaaDoor
namespace Go.Proofs.YtbgpojdmdnkeaaaDoor
open Go.Abs
set_option linter.unusedSimpArgs false
set_option linter.unusedVariables false
end Go.Proofs.YtbgpojdmdnkeaaaDoor
namespace Go.Proofs.YtbgpojdmdnkeaaaDoor
open Go.Abs
set_option linter.unusedSimpArgs false
set_option linter.unusedVariables false
end Go.Proofs.YtbgpojdmdnkeaaaDoor
namespace Go.Proofs.YtbgpojdmdnkeaaaDoor
open Go.Abs
set_option linter.unusedSimpArgs false
set_option linter.unusedVariables false
end Go.Proofs.YtbgpojdmdnkeaaaDoor
namespace Go.Proofs.YtbgpojdmdnkeaaaDoor
open Go.Abs
set_option linter.unusedSimpArgs false
set_option linter.unusedVariables false
/-! hexadecimal -/
/-! lines -/
end Go.Proofs.YtbgpojdmdnkeaaaDoor
namespace Go.Proofs.YtbgpojdmdnkeaaaDoor
open Go.Abs
set_option linter.unusedVariables false
set_option linter.unusedSimpArgs false
set_option maxRecDepth 20000
set_option maxHeartbeats 4000000

end Go.Proofs.YtbgpojdmdnkeaaaDoor
namespace Go.Proofs.YtbgpojdmdnkeaaaDoor
open Go.Abs
set_option linter.unusedSimpArgs false
set_option linter.unusedVariables false
theorem same_refl (p : S_api_Playlist) (hl : p.L.length ≤ 4294967296) (n : Nat) (hn : p.L.length < n) : ref43_Same n p p = some true := by
  unfold ref43_Same
  have e : ((decide (p.First ≠ p.First) || (!(p.Done == p.Done))) || decide ((p.L.length : Int) ≠ (p.L.length : Int))) = false := by simp
  rw [e, cond_false]
  rw [iter_allgo (step := ref43_Same_L1 p p) p.L.length (.go ()) (fun i hi => by
    unfold ref43_Same_L1
    have e : decide ((i : Int) < (p.L.length : Int)) = true := by simpa using hi
    rw [e, cond_true, idx_get' hi, idx_get' hi]
    simp only [decide_true, Bool.and_true, Bool.not_true, cond_false]
    rw [w64 (by omega) (by omega)]; rfl) (by unfold ref43_Same_L1; simp) n hn]
  rfl
end Go.Proofs.YtbgpojdmdnkeaaaDoor
namespace Go.Proofs.YtbgpojdmdnkeaaaDoor
open Go.Abs
set_option linter.unusedVariables false
set_option linter.unusedSimpArgs false
set_option maxRecDepth 20000
set_option maxHeartbeats 4000000

structure S_2_uint8 where
  a0_ : Int
  a1_ : Int
  deriving DecidableEq, Repr
def S_2_uint8.enc (x : S_2_uint8) : List Value := [.int .u8 x.a0_, .int .u8 x.a1_]
theorem S_2_uint8.enc_ok (x : S_2_uint8) : (S_2_uint8.enc x).length = 2 ∧ ∀ u ∈ S_2_uint8.enc x, u.oneCell' = true := by
  constructor
  · rfl
  · intro u hu; simp only [S_2_uint8.enc, List.mem_cons, List.not_mem_nil, or_false] at hu; rcases hu with rfl | rfl <;> rfl
def S_2_uint8.toL (x : S_2_uint8) : List Int := [x.a0_, x.a1_]
def S_2_uint8.ofL (d : S_2_uint8) (l : List Int) : S_2_uint8 := ⟨(l[0]?).getD d.a0_, (l[1]?).getD d.a1_⟩
def S_2_uint8.get (x : S_2_uint8) (i : Int) : Int := (x.toL[i.toNat]?).getD x.a0_
def S_2_uint8.put (x : S_2_uint8) (i : Int) (v : Int) : S_2_uint8 := S_2_uint8.ofL x (x.toL.set i.toNat v)
theorem S_2_uint8.toL_len (x : S_2_uint8) : x.toL.length = 2 := rfl
theorem S_2_uint8.ofL_toL (d : S_2_uint8) : ∀ l : List Int, l.length = 2 → (S_2_uint8.ofL d l).toL = l
  | [y0, y1], _ => rfl
theorem S_2_uint8.put_toL (x : S_2_uint8) (i : Int) (v : Int) : (S_2_uint8.put x i v).toL = x.toL.set i.toNat v := S_2_uint8.ofL_toL _ _ (by simp [S_2_uint8.toL_len])
theorem S_2_uint8.get_at {p : S_2_uint8} {i : Int} {x : Int} (h : 0 ≤ i ∧ i < 2) (hx : some (S_2_uint8.get p i) = some x) : p.toL[i.toNat]? = some x := by
  have hl : i.toNat < p.toL.length := by rw [S_2_uint8.toL_len]; omega
  have e : S_2_uint8.get p i = p.toL[i.toNat] := by unfold S_2_uint8.get; rw [List.getElem?_eq_getElem hl]; rfl
  rw [List.getElem?_eq_getElem hl, ← e]; exact hx
theorem S_2_uint8.put_at {p x : S_2_uint8} {i : Int} {v : Int} (hx : some (S_2_uint8.put p i v) = some x) : x.toL = p.toL.set i.toNat v := by rw [← Option.some.inj hx, S_2_uint8.put_toL]

def ref43_Right (s_0 : S_api_Segment) : Option (Bool) :=
 some (((((((decide (0 ≤ s_0.Num) && decide (s_0.Num ≤ 1099511627776)) && decide (0 ≤ s_0.Begin)) && decide (s_0.Begin ≤ 1099511627776)) && decide (1 ≤ s_0.Len)) && decide (s_0.Len ≤ 60000)) && decide (0 ≤ s_0.Size)) && decide (s_0.Size ≤ 1099511627776))
theorem ref43_Right_ok (s_0 : S_api_Segment)  {r : Bool} (h : ref43_Right s_0 = some r) :
  Meets Tryd.prog 23 [.agg #[.int .i64 s_0.Num, .int .i64 s_0.Begin, .int .i64 s_0.Len, .int .u8 s_0.Body.a0_, .int .u8 s_0.Body.a1_, .int .u8 s_0.Body.a2_, .int .u8 s_0.Body.a3_, .int .u8 s_0.Body.a4_, .int .u8 s_0.Body.a5_, .int .u8 s_0.Body.a6_, .int .u8 s_0.Body.a7_, .int .u8 s_0.Body.a8_, .int .u8 s_0.Body.a9_, .int .u8 s_0.Body.a10_, .int .u8 s_0.Body.a11_, .int .u8 s_0.Body.a12_, .int .u8 s_0.Body.a13_, .int .u8 s_0.Body.a14_, .int .u8 s_0.Body.a15_, .int .i64 s_0.Size]] [] (fun v G => v = .bool r ∧ G = []) := by
 refine fn_of_run Tryd.func23 rfl Tryd.ntmps23 rfl (fun w0 o0 => ?_)
 refine run_seq ?_
 refine run_region' ?_
 refine ot rfl rfl (t_box rfl) ?_
 rintro _ _ ⟨b1, rfl, rfl⟩
 refine oy rfl rfl (y_assign rfl) ?_
 refine ops_nil ?_
 refine goes_code ?_
 refine run_seq ?_
 refine run_region' ?_
 refine oy rfl rfl (y_fieldAddr_box (sz := 0) Tryd.runUnderlying40 rfl Tryd.sizeOf3 rfl) ?_
 refine oy rfl rfl (y_load_box 0 Tryd.isAgg3 rfl rfl rfl) ?_
 refine oy rfl rfl (y_geq rfl rfl) ?_
 refine oy rfl rfl (y_move rfl) ?_
 refine ops_cut 4 (Bool) (fun σ => [(1, boxP b1 0), (10, .bool σ)]) (fun σ => [box b1 [.int .i64 s_0.Num, .int .i64 s_0.Begin, .int .i64 s_0.Len, .int .u8 s_0.Body.a0_, .int .u8 s_0.Body.a1_, .int .u8 s_0.Body.a2_, .int .u8 s_0.Body.a3_, .int .u8 s_0.Body.a4_, .int .u8 s_0.Body.a5_, .int .u8 s_0.Body.a6_, .int .u8 s_0.Body.a7_, .int .u8 s_0.Body.a8_, .int .u8 s_0.Body.a9_, .int .u8 s_0.Body.a10_, .int .u8 s_0.Body.a11_, .int .u8 s_0.Body.a12_, .int .u8 s_0.Body.a13_, .int .u8 s_0.Body.a14_, .int .u8 s_0.Body.a15_, .int .i64 s_0.Size]]) (fun σ => σ = (decide (0 ≤ s_0.Num) && decide (s_0.Num ≤ 1099511627776))) (fun L2 hL3 => ?_) ?_
 ·refine ops_split 6 (decide (0 ≤ s_0.Num)) rfl (fun hg4 => ?_) (fun hg4 => ?_)
  ·skip
   refine ops_y (wg 3 true 6 rfl rfl rfl rfl) rfl (y_fieldAddr_box (sz := 0) Tryd.runUnderlying40 rfl Tryd.sizeOf3 rfl) ?_
   refine ops_y (wg 3 true 6 rfl rfl rfl rfl) rfl (y_load_box 0 Tryd.isAgg3 rfl rfl rfl) ?_
   refine ops_y (wg 3 true 6 rfl rfl rfl rfl) rfl (y_leq rfl rfl) ?_
   refine oy rfl rfl (y_pick (b := true) rfl rfl) ?_
   refine ops_nil ?_
   exact goes_cut hL3 (decide (s_0.Num ≤ 1099511627776)) [0] (qv2 rfl rfl) (by decide) rfl (by rw [hg4]; simp)
  ·skip
   refine ops_no 3 true 6 rfl rfl rfl rfl rfl ?_
   refine ops_no 3 true 6 rfl rfl rfl rfl rfl ?_
   refine ops_no 3 true 6 rfl rfl rfl rfl rfl ?_
   refine oy rfl rfl (y_pick (b := false) rfl rfl) ?_
   refine ops_nil ?_
   exact goes_cut hL3 false [0] (qv2 rfl rfl) (by decide) rfl (by rw [hg4]; simp)
 rintro _ rfl
 refine oy rfl rfl (y_move rfl) ?_
 refine ops_cut 4 (Bool) (fun σ => [(1, boxP b1 0), (15, .bool σ)]) (fun σ => [box b1 [.int .i64 s_0.Num, .int .i64 s_0.Begin, .int .i64 s_0.Len, .int .u8 s_0.Body.a0_, .int .u8 s_0.Body.a1_, .int .u8 s_0.Body.a2_, .int .u8 s_0.Body.a3_, .int .u8 s_0.Body.a4_, .int .u8 s_0.Body.a5_, .int .u8 s_0.Body.a6_, .int .u8 s_0.Body.a7_, .int .u8 s_0.Body.a8_, .int .u8 s_0.Body.a9_, .int .u8 s_0.Body.a10_, .int .u8 s_0.Body.a11_, .int .u8 s_0.Body.a12_, .int .u8 s_0.Body.a13_, .int .u8 s_0.Body.a14_, .int .u8 s_0.Body.a15_, .int .i64 s_0.Size]]) (fun σ => σ = ((decide (0 ≤ s_0.Num) && decide (s_0.Num ≤ 1099511627776)) && decide (0 ≤ s_0.Begin))) (fun L5 hL6 => ?_) ?_
 ·refine ops_split 11 (decide (0 ≤ s_0.Num) && decide (s_0.Num ≤ 1099511627776)) rfl (fun hg7 => ?_) (fun hg7 => ?_)
  ·skip
   refine ops_y (wg 8 true 11 rfl rfl rfl rfl) rfl (y_fieldAddr_box (sz := 0) Tryd.runUnderlying40 rfl Tryd.sizeOf3 rfl) ?_
   refine ops_y (wg 8 true 11 rfl rfl rfl rfl) rfl (y_load_box 0 Tryd.isAgg3 rfl rfl rfl) ?_
   refine ops_y (wg 8 true 11 rfl rfl rfl rfl) rfl (y_geq rfl rfl) ?_
   refine oy rfl rfl (y_pick (b := true) rfl rfl) ?_
   refine ops_nil ?_
   exact goes_cut hL6 (decide (0 ≤ s_0.Begin)) [0] (qv2 rfl rfl) (by decide) rfl (by rw [hg7]; simp)
  ·skip
   refine ops_no 8 true 11 rfl rfl rfl rfl rfl ?_
   refine ops_no 8 true 11 rfl rfl rfl rfl rfl ?_
   refine ops_no 8 true 11 rfl rfl rfl rfl rfl ?_
   refine oy rfl rfl (y_pick (b := false) rfl rfl) ?_
   refine ops_nil ?_
   exact goes_cut hL6 false [0] (qv2 rfl rfl) (by decide) rfl (by rw [hg7]; simp)
 rintro _ rfl
 refine oy rfl rfl (y_move rfl) ?_
 refine ops_cut 4 (Bool) (fun σ => [(1, boxP b1 0), (20, .bool σ)]) (fun σ => [box b1 [.int .i64 s_0.Num, .int .i64 s_0.Begin, .int .i64 s_0.Len, .int .u8 s_0.Body.a0_, .int .u8 s_0.Body.a1_, .int .u8 s_0.Body.a2_, .int .u8 s_0.Body.a3_, .int .u8 s_0.Body.a4_, .int .u8 s_0.Body.a5_, .int .u8 s_0.Body.a6_, .int .u8 s_0.Body.a7_, .int .u8 s_0.Body.a8_, .int .u8 s_0.Body.a9_, .int .u8 s_0.Body.a10_, .int .u8 s_0.Body.a11_, .int .u8 s_0.Body.a12_, .int .u8 s_0.Body.a13_, .int .u8 s_0.Body.a14_, .int .u8 s_0.Body.a15_, .int .i64 s_0.Size]]) (fun σ => σ = (((decide (0 ≤ s_0.Num) && decide (s_0.Num ≤ 1099511627776)) && decide (0 ≤ s_0.Begin)) && decide (s_0.Begin ≤ 1099511627776))) (fun L8 hL9 => ?_) ?_
 ·refine ops_split 16 ((decide (0 ≤ s_0.Num) && decide (s_0.Num ≤ 1099511627776)) && decide (0 ≤ s_0.Begin)) rfl (fun hg10 => ?_) (fun hg10 => ?_)
  ·skip
   refine ops_y (wg 13 true 16 rfl rfl rfl rfl) rfl (y_fieldAddr_box (sz := 0) Tryd.runUnderlying40 rfl Tryd.sizeOf3 rfl) ?_
   refine ops_y (wg 13 true 16 rfl rfl rfl rfl) rfl (y_load_box 0 Tryd.isAgg3 rfl rfl rfl) ?_
   refine ops_y (wg 13 true 16 rfl rfl rfl rfl) rfl (y_leq rfl rfl) ?_
   refine oy rfl rfl (y_pick (b := true) rfl rfl) ?_
   refine ops_nil ?_
   exact goes_cut hL9 (decide (s_0.Begin ≤ 1099511627776)) [0] (qv2 rfl rfl) (by decide) rfl (by rw [hg10]; simp)
  ·skip
   refine ops_no 13 true 16 rfl rfl rfl rfl rfl ?_
   refine ops_no 13 true 16 rfl rfl rfl rfl rfl ?_
   refine ops_no 13 true 16 rfl rfl rfl rfl rfl ?_
   refine oy rfl rfl (y_pick (b := false) rfl rfl) ?_
   refine ops_nil ?_
   exact goes_cut hL9 false [0] (qv2 rfl rfl) (by decide) rfl (by rw [hg10]; simp)
 rintro _ rfl
 refine oy rfl rfl (y_move rfl) ?_
 refine ops_cut 4 (Bool) (fun σ => [(1, boxP b1 0), (25, .bool σ)]) (fun σ => [box b1 [.int .i64 s_0.Num, .int .i64 s_0.Begin, .int .i64 s_0.Len, .int .u8 s_0.Body.a0_, .int .u8 s_0.Body.a1_, .int .u8 s_0.Body.a2_, .int .u8 s_0.Body.a3_, .int .u8 s_0.Body.a4_, .int .u8 s_0.Body.a5_, .int .u8 s_0.Body.a6_, .int .u8 s_0.Body.a7_, .int .u8 s_0.Body.a8_, .int .u8 s_0.Body.a9_, .int .u8 s_0.Body.a10_, .int .u8 s_0.Body.a11_, .int .u8 s_0.Body.a12_, .int .u8 s_0.Body.a13_, .int .u8 s_0.Body.a14_, .int .u8 s_0.Body.a15_, .int .i64 s_0.Size]]) (fun σ => σ = ((((decide (0 ≤ s_0.Num) && decide (s_0.Num ≤ 1099511627776)) && decide (0 ≤ s_0.Begin)) && decide (s_0.Begin ≤ 1099511627776)) && decide (1 ≤ s_0.Len))) (fun L11 hL12 => ?_) ?_
 ·refine ops_split 21 (((decide (0 ≤ s_0.Num) && decide (s_0.Num ≤ 1099511627776)) && decide (0 ≤ s_0.Begin)) && decide (s_0.Begin ≤ 1099511627776)) rfl (fun hg13 => ?_) (fun hg13 => ?_)
  ·skip
   refine ops_y (wg 18 true 21 rfl rfl rfl rfl) rfl (y_fieldAddr_box (sz := 0) Tryd.runUnderlying40 rfl Tryd.sizeOf3 rfl) ?_
   refine ops_y (wg 18 true 21 rfl rfl rfl rfl) rfl (y_load_box 0 Tryd.isAgg3 rfl rfl rfl) ?_
   refine ops_y (wg 18 true 21 rfl rfl rfl rfl) rfl (y_geq rfl rfl) ?_
   refine oy rfl rfl (y_pick (b := true) rfl rfl) ?_
   refine ops_nil ?_
   exact goes_cut hL12 (decide (1 ≤ s_0.Len)) [0] (qv2 rfl rfl) (by decide) rfl (by rw [hg13]; simp)
  ·skip
   refine ops_no 18 true 21 rfl rfl rfl rfl rfl ?_
   refine ops_no 18 true 21 rfl rfl rfl rfl rfl ?_
   refine ops_no 18 true 21 rfl rfl rfl rfl rfl ?_
   refine oy rfl rfl (y_pick (b := false) rfl rfl) ?_
   refine ops_nil ?_
   exact goes_cut hL12 false [0] (qv2 rfl rfl) (by decide) rfl (by rw [hg13]; simp)
 rintro _ rfl
 refine oy rfl rfl (y_move rfl) ?_
 refine ops_cut 4 (Bool) (fun σ => [(1, boxP b1 0), (30, .bool σ)]) (fun σ => [box b1 [.int .i64 s_0.Num, .int .i64 s_0.Begin, .int .i64 s_0.Len, .int .u8 s_0.Body.a0_, .int .u8 s_0.Body.a1_, .int .u8 s_0.Body.a2_, .int .u8 s_0.Body.a3_, .int .u8 s_0.Body.a4_, .int .u8 s_0.Body.a5_, .int .u8 s_0.Body.a6_, .int .u8 s_0.Body.a7_, .int .u8 s_0.Body.a8_, .int .u8 s_0.Body.a9_, .int .u8 s_0.Body.a10_, .int .u8 s_0.Body.a11_, .int .u8 s_0.Body.a12_, .int .u8 s_0.Body.a13_, .int .u8 s_0.Body.a14_, .int .u8 s_0.Body.a15_, .int .i64 s_0.Size]]) (fun σ => σ = (((((decide (0 ≤ s_0.Num) && decide (s_0.Num ≤ 1099511627776)) && decide (0 ≤ s_0.Begin)) && decide (s_0.Begin ≤ 1099511627776)) && decide (1 ≤ s_0.Len)) && decide (s_0.Len ≤ 60000))) (fun L14 hL15 => ?_) ?_
 ·refine ops_split 26 ((((decide (0 ≤ s_0.Num) && decide (s_0.Num ≤ 1099511627776)) && decide (0 ≤ s_0.Begin)) && decide (s_0.Begin ≤ 1099511627776)) && decide (1 ≤ s_0.Len)) rfl (fun hg16 => ?_) (fun hg16 => ?_)
  ·skip
   refine ops_y (wg 23 true 26 rfl rfl rfl rfl) rfl (y_fieldAddr_box (sz := 0) Tryd.runUnderlying40 rfl Tryd.sizeOf3 rfl) ?_
   refine ops_y (wg 23 true 26 rfl rfl rfl rfl) rfl (y_load_box 0 Tryd.isAgg3 rfl rfl rfl) ?_
   refine ops_y (wg 23 true 26 rfl rfl rfl rfl) rfl (y_leq rfl rfl) ?_
   refine oy rfl rfl (y_pick (b := true) rfl rfl) ?_
   refine ops_nil ?_
   exact goes_cut hL15 (decide (s_0.Len ≤ 60000)) [0] (qv2 rfl rfl) (by decide) rfl (by rw [hg16]; simp)
  ·skip
   refine ops_no 23 true 26 rfl rfl rfl rfl rfl ?_
   refine ops_no 23 true 26 rfl rfl rfl rfl rfl ?_
   refine ops_no 23 true 26 rfl rfl rfl rfl rfl ?_
   refine oy rfl rfl (y_pick (b := false) rfl rfl) ?_
   refine ops_nil ?_
   exact goes_cut hL15 false [0] (qv2 rfl rfl) (by decide) rfl (by rw [hg16]; simp)
 rintro _ rfl
 refine oy rfl rfl (y_move rfl) ?_
 refine ops_cut 4 (Bool) (fun σ => [(1, boxP b1 0), (35, .bool σ)]) (fun σ => [box b1 [.int .i64 s_0.Num, .int .i64 s_0.Begin, .int .i64 s_0.Len, .int .u8 s_0.Body.a0_, .int .u8 s_0.Body.a1_, .int .u8 s_0.Body.a2_, .int .u8 s_0.Body.a3_, .int .u8 s_0.Body.a4_, .int .u8 s_0.Body.a5_, .int .u8 s_0.Body.a6_, .int .u8 s_0.Body.a7_, .int .u8 s_0.Body.a8_, .int .u8 s_0.Body.a9_, .int .u8 s_0.Body.a10_, .int .u8 s_0.Body.a11_, .int .u8 s_0.Body.a12_, .int .u8 s_0.Body.a13_, .int .u8 s_0.Body.a14_, .int .u8 s_0.Body.a15_, .int .i64 s_0.Size]]) (fun σ => σ = ((((((decide (0 ≤ s_0.Num) && decide (s_0.Num ≤ 1099511627776)) && decide (0 ≤ s_0.Begin)) && decide (s_0.Begin ≤ 1099511627776)) && decide (1 ≤ s_0.Len)) && decide (s_0.Len ≤ 60000)) && decide (0 ≤ s_0.Size))) (fun L17 hL18 => ?_) ?_
 ·refine ops_split 31 (((((decide (0 ≤ s_0.Num) && decide (s_0.Num ≤ 1099511627776)) && decide (0 ≤ s_0.Begin)) && decide (s_0.Begin ≤ 1099511627776)) && decide (1 ≤ s_0.Len)) && decide (s_0.Len ≤ 60000)) rfl (fun hg19 => ?_) (fun hg19 => ?_)
  ·skip
   refine ops_y (wg 28 true 31 rfl rfl rfl rfl) rfl (y_fieldAddr_box (sz := 0) Tryd.runUnderlying40 rfl Tryd.sizeOf3 rfl) ?_
   refine ops_y (wg 28 true 31 rfl rfl rfl rfl) rfl (y_load_box 0 Tryd.isAgg3 rfl rfl rfl) ?_
   refine ops_y (wg 28 true 31 rfl rfl rfl rfl) rfl (y_geq rfl rfl) ?_
   refine oy rfl rfl (y_pick (b := true) rfl rfl) ?_
   refine ops_nil ?_
   exact goes_cut hL18 (decide (0 ≤ s_0.Size)) [0] (qv2 rfl rfl) (by decide) rfl (by rw [hg19]; simp)
  ·skip
   refine ops_no 28 true 31 rfl rfl rfl rfl rfl ?_
   refine ops_no 28 true 31 rfl rfl rfl rfl rfl ?_
   refine ops_no 28 true 31 rfl rfl rfl rfl rfl ?_
   refine oy rfl rfl (y_pick (b := false) rfl rfl) ?_
   refine ops_nil ?_
   exact goes_cut hL18 false [0] (qv2 rfl rfl) (by decide) rfl (by rw [hg19]; simp)
 rintro _ rfl
 refine oy rfl rfl (y_move rfl) ?_
 refine ops_cut 4 (Bool) (fun σ => [(40, .bool σ)]) (fun σ => []) (fun σ => σ = (((((((decide (0 ≤ s_0.Num) && decide (s_0.Num ≤ 1099511627776)) && decide (0 ≤ s_0.Begin)) && decide (s_0.Begin ≤ 1099511627776)) && decide (1 ≤ s_0.Len)) && decide (s_0.Len ≤ 60000)) && decide (0 ≤ s_0.Size)) && decide (s_0.Size ≤ 1099511627776))) (fun L20 hL21 => ?_) ?_
 ·refine ops_split 36 ((((((decide (0 ≤ s_0.Num) && decide (s_0.Num ≤ 1099511627776)) && decide (0 ≤ s_0.Begin)) && decide (s_0.Begin ≤ 1099511627776)) && decide (1 ≤ s_0.Len)) && decide (s_0.Len ≤ 60000)) && decide (0 ≤ s_0.Size)) rfl (fun hg22 => ?_) (fun hg22 => ?_)
  ·skip
   refine ops_y (wg 33 true 36 rfl rfl rfl rfl) rfl (y_fieldAddr_box (sz := 0) Tryd.runUnderlying40 rfl Tryd.sizeOf3 rfl) ?_
   refine ops_y (wg 33 true 36 rfl rfl rfl rfl) rfl (y_load_box 0 Tryd.isAgg3 rfl rfl rfl) ?_
   refine ops_y (wg 33 true 36 rfl rfl rfl rfl) rfl (y_leq rfl rfl) ?_
   refine oy rfl rfl (y_pick (b := true) rfl rfl) ?_
   refine ops_nil ?_
   exact goes_cut hL21 (decide (s_0.Size ≤ 1099511627776)) [] (qv1 rfl) (by decide) rfl (by rw [hg22]; simp)
  ·skip
   refine ops_no 33 true 36 rfl rfl rfl rfl rfl ?_
   refine ops_no 33 true 36 rfl rfl rfl rfl rfl ?_
   refine ops_no 33 true 36 rfl rfl rfl rfl rfl ?_
   refine oy rfl rfl (y_pick (b := false) rfl rfl) ?_
   refine ops_nil ?_
   exact goes_cut hL21 false [] (qv1 rfl) (by decide) rfl (by rw [hg22]; simp)
 rintro _ rfl
 refine oy rfl rfl (y_assign rfl) ?_
 refine ops_nil ?_
 refine goes_code ?_
 refine run_ret ?_
 obtain rfl := some_eq h
 refine fin_slots [2] [.bool (((((((decide (0 ≤ s_0.Num) && decide (s_0.Num ≤ 1099511627776)) && decide (0 ≤ s_0.Begin)) && decide (s_0.Begin ≤ 1099511627776)) && decide (1 ≤ s_0.Len)) && decide (s_0.Len ≤ 60000)) && decide (0 ≤ s_0.Size)) && decide (s_0.Size ≤ 1099511627776))] [] [] Tryd.results23 rfl (by decide) rfl ?_
 exact ⟨rfl, rfl⟩

def ref43_Stream_L1 (l_0 : (List S_api_Segment)) : (Int) → Option (Lp (Int) (Lp (Unit) (Bool))) :=
 fun i_5 =>
  cond (decide (i_5 < (l_0.length : Int)))
   (idx l_0 i_5 fun x11 =>
   obind (ref43_Right x11) fun r12 =>
   bindJ (S := Bool)
    (cond (!r12)
     (some (.go true))
     (bindJ (S := Bool)
      (cond (decide (0 < i_5))
       (idx l_0 (IntKind.i64.wrap (i_5 - 1)) fun x26 =>
       some (.go (decide (x11.Num ≠ (IntKind.i64.wrap (x26.Num + 1))) || decide (x11.Begin ≠ (IntKind.i64.wrap (x26.Begin + x26.Len))))))
       (some (.go false)))
     (fun b20 =>
      some (.go b20))))
   (fun b14 =>
    cond b14
     (some (.stop (.stop false)))
     (some (.go (IntKind.i64.wrap (i_5 + 1))))))
   (some (.stop (.go ())))
def ref43_Stream (n : Nat) (l_0 : (List S_api_Segment)) : Option (Bool) :=
 bindJ (S := Unit)
  (iter (ref43_Stream_L1 l_0) n 0)
 (fun _ =>
  some (decide ((l_0.length : Int) ≤ 1000)))
theorem ref43_Stream_ok (n : Nat) (l_0 : (List S_api_Segment)) (l_0v : Value) {r : Bool} (h : ref43_Stream n l_0 = some r) :
  Meets Tryd.prog 7 [l_0v] [ro l_0v 20 (l_0.map S_api_Segment.enc)] (fun v G => v = .bool r ∧ G = []) := by
 refine fn_of_run Tryd.func7 rfl Tryd.ntmps7 rfl (fun w0 o0 => ?_)
 refine run_seq ?_
 refine run_region' ?_
 refine oy rfl rfl (y_assign rfl) ?_
 refine ops_nil ?_
 refine goes_code ?_
 obtain ⟨o1, h, ho2⟩ := bindJ_some h
 refine run_cut ((Unit) × (Unit)) (fun σ => [(0, l_0v)]) (fun σ => [ro l_0v 20 (l_0.map S_api_Segment.enc)]) (fun σ => o1 = .go σ.1) (fun L4 hL3 => ?_) ?_
 ·
  refine run_seq ?_
  refine run_region' ?_
  refine oy rfl rfl (y_assign rfl) ?_
  refine ops_nil ?_
  refine goes_code ?_
  refine run_block ?_
  refine run_iter (step := ref43_Stream_L1 l_0) (n := n) (s0 := 0) h (G := Unit) () (fun σ γ => [(3, .int .i64 σ), (0, l_0v)]) (fun σ γ => [ro l_0v 20 (l_0.map S_api_Segment.enc)]) [0] (qv2 rfl rfl) (by decide) rfl ?_
  rintro i_5 _ o6 h L9 hgo7 hstop8
  change Run _ _ _ (VF.of [(3, .int .i64 i_5), (0, l_0v)]) [ro l_0v 20 (l_0.map S_api_Segment.enc)]
  refine run_seq ?_
  refine run_seq ?_
  refine run_region' ?_
  refine oy rfl rfl (y_move rfl) ?_
  refine oy rfl rfl (y_move rfl) ?_
  refine oy rfl rfl ((y_len 0 rfl Tryd.runUnderlying22 rfl rfl reads_ro).to (v_len S_api_Segment.enc _)) ?_
  refine oy rfl rfl (y_lss rfl rfl) ?_
  refine ops_nil ?_
  refine goes_code ?_
  refine run_cond (decide (i_5 < (l_0.length : Int))) rfl (fun hc10 => ?_) (fun hc10 => ?_)
  ·replace h := cond_t h hc10
   refine run_skip ?_
   refine goes_code ?_
   refine run_seq ?_
   refine run_block ?_
   refine run_seq ?_
   refine run_region' ?_
   refine oy rfl rfl (y_move rfl) ?_
   refine oy rfl rfl (y_move rfl) ?_
   obtain ⟨x11, hzx11, hlx11, hxx11, h⟩ := idx_some h
   refine oy rfl rfl (y_indexAddrI (kd := .i64) (i := i_5) 0 Tryd.runUnderlying22 Tryd.sizeOf40 rfl rfl rfl reads_ro hzx11 (map_lt hlx11)) ?_
   refine oy rfl rfl (y_load_agg (i := i_5.toNat) (c := [.int .i64 x11.Num, .int .i64 x11.Begin, .int .i64 x11.Len, .int .u8 x11.Body.a0_, .int .u8 x11.Body.a1_, .int .u8 x11.Body.a2_, .int .u8 x11.Body.a3_, .int .u8 x11.Body.a4_, .int .u8 x11.Body.a5_, .int .u8 x11.Body.a6_, .int .u8 x11.Body.a7_, .int .u8 x11.Body.a8_, .int .u8 x11.Body.a9_, .int .u8 x11.Body.a10_, .int .u8 x11.Body.a11_, .int .u8 x11.Body.a12_, .int .u8 x11.Body.a13_, .int .u8 x11.Body.a14_, .int .u8 x11.Body.a15_, .int .i64 x11.Size]) 0 Tryd.isAgg40 Tryd.sizeOf40 rfl rfl reads_ro (map_get hxx11)) ?_
   obtain ⟨r12, hr13, h⟩ := obind_some h
   refine ot rfl rfl (t_callx (vs := [.agg #[.int .i64 x11.Num, .int .i64 x11.Begin, .int .i64 x11.Len, .int .u8 x11.Body.a0_, .int .u8 x11.Body.a1_, .int .u8 x11.Body.a2_, .int .u8 x11.Body.a3_, .int .u8 x11.Body.a4_, .int .u8 x11.Body.a5_, .int .u8 x11.Body.a6_, .int .u8 x11.Body.a7_, .int .u8 x11.Body.a8_, .int .u8 x11.Body.a9_, .int .u8 x11.Body.a10_, .int .u8 x11.Body.a11_, .int .u8 x11.Body.a12_, .int .u8 x11.Body.a13_, .int .u8 x11.Body.a14_, .int .u8 x11.Body.a15_, .int .i64 x11.Size]]) (cs := []) [] rfl Tryd.call23 rfl (ref43_Right_ok x11  hr13) showsX_nil rfl (.inl rfl)) ?_
   rintro _ _ ⟨_, ⟨rfl, rfl⟩, rfl⟩
   refine oy rfl rfl (y_assign rfl) ?_
   refine ops_nil ?_
   refine goes_code ?_
   refine run_seq ?_
   refine run_weak [(3, .int .i64 i_5), (0, l_0v), (4, .bool r12)] [0] [ro l_0v 20 (l_0.map S_api_Segment.enc)] (qv3 rfl rfl rfl) (by decide) rfl ?_
   refine run_draw (by kernel_rfl) (by kernel_rfl) ?_
   refine sy rfl rfl (y_move rfl) ?_
   refine sy rfl rfl (y_not rfl) ?_
   refine sy rfl rfl (y_move rfl) ?_
   obtain ⟨o15, h, ho16⟩ := bindJ_some h
   refine still_cut 39 (Bool) (fun σ => [(3, .int .i64 i_5), (0, l_0v), (57, .bool σ)]) (fun σ => [ro l_0v 20 (l_0.map S_api_Segment.enc)]) (fun σ => o15 = .go σ) (fun L17 hL18 => ?_) ?_
   ·refine still_split 18 (!r12) rfl (fun hg19 => ?_) (fun hg19 => ?_)
    ·replace h := cond_t h hg19
     refine still_no 2 false 18 rfl rfl rfl rfl rfl ?_
     refine still_no 2 false 18 rfl rfl rfl rfl rfl ?_
     refine still_no 2 false 18 rfl rfl rfl rfl rfl ?_
     refine still_un 5 true 21 rfl rfl rfl rfl rfl ?_
     refine still_un 5 true 21 rfl rfl rfl rfl rfl ?_
     refine still_un 5 true 21 rfl rfl rfl rfl rfl ?_
     refine still_un 5 true 21 rfl rfl rfl rfl rfl ?_
     refine still_un 5 true 21 rfl rfl rfl rfl rfl ?_
     refine still_un 5 true 21 rfl rfl rfl rfl rfl ?_
     refine still_un 5 true 21 rfl rfl rfl rfl rfl ?_
     refine still_un 5 true 21 rfl rfl rfl rfl rfl ?_
     refine still_un 5 true 21 rfl rfl rfl rfl rfl ?_
     refine still_un 5 true 21 rfl rfl rfl rfl rfl ?_
     refine still_un 5 true 21 rfl rfl rfl rfl rfl ?_
     refine still_un 5 true 21 rfl rfl rfl rfl rfl ?_
     refine still_un 5 true 21 rfl rfl rfl rfl rfl ?_
     refine still_un 5 true 21 rfl rfl rfl rfl rfl ?_
     refine still_un 19 false 35 rfl rfl rfl rfl rfl ?_
     refine still_un 19 false 35 rfl rfl rfl rfl rfl ?_
     refine still_un 19 false 35 rfl rfl rfl rfl rfl ?_
     refine still_un 19 false 35 rfl rfl rfl rfl rfl ?_
     refine still_un 19 false 35 rfl rfl rfl rfl rfl ?_
     refine still_un 19 false 35 rfl rfl rfl rfl rfl ?_
     refine still_un 19 false 35 rfl rfl rfl rfl rfl ?_
     refine still_un 19 false 35 rfl rfl rfl rfl rfl ?_
     refine still_un 19 false 35 rfl rfl rfl rfl rfl ?_
     refine still_un 19 false 35 rfl rfl rfl rfl rfl ?_
     refine still_un 19 false 35 rfl rfl rfl rfl rfl ?_
     refine still_un 19 false 35 rfl rfl rfl rfl rfl ?_
     refine still_un 19 false 35 rfl rfl rfl rfl rfl ?_
     refine still_un 19 false 35 rfl rfl rfl rfl rfl ?_
     refine still_un 19 false 35 rfl rfl rfl rfl rfl ?_
     refine still_un 19 false 35 rfl rfl rfl rfl rfl ?_
     refine still_un 19 false 35 rfl rfl rfl rfl rfl ?_
     refine still_un 19 false 35 rfl rfl rfl rfl rfl ?_
     refine still_un 19 false 35 rfl rfl rfl rfl rfl ?_
     refine still_un 5 true 21 rfl rfl rfl rfl rfl ?_
     refine still_no 2 false 18 rfl rfl rfl rfl rfl ?_
     refine sy rfl rfl (y_pick (b := true) rfl rfl) ?_
     refine still_nil ?_
     obtain rfl := some_eq h
     exact goes_cut hL18 true [0] (qv3 rfl rfl rfl) (by decide) rfl rfl
    ·replace h := cond_f h hg19
     refine still_y (wg 2 false 18 rfl rfl rfl rfl) rfl (y_move rfl) ?_
     refine still_y (wg 2 false 18 rfl rfl rfl rfl) rfl (y_gtr rfl rfl) ?_
     refine still_y (wg 2 false 18 rfl rfl rfl rfl) rfl (y_move rfl) ?_
     obtain ⟨o21, h, ho22⟩ := bindJ_some h
     refine still_cut 35 (Bool) (fun σ => [(3, .int .i64 i_5), (0, l_0v), (18, .bool false), (56, .bool σ)]) (fun σ => [ro l_0v 20 (l_0.map S_api_Segment.enc)]) (fun σ => o21 = .go σ) (fun L23 hL24 => ?_) ?_
     ·refine still_split 21 (decide (0 < i_5)) rfl (fun hg25 => ?_) (fun hg25 => ?_)
      ·replace h := cond_t h hg25
       refine still_y (wg 5 true 21 rfl rfl rfl rfl) rfl (y_move rfl) ?_
       refine still_y (wg 5 true 21 rfl rfl rfl rfl) rfl (y_move rfl) ?_
       refine still_y (wg 5 true 21 rfl rfl rfl rfl) rfl (y_indexAddrI (kd := .i64) (i := i_5) 0 Tryd.runUnderlying22 Tryd.sizeOf40 rfl rfl rfl reads_ro hzx11 (map_lt hlx11)) ?_
       refine still_y (wg 5 true 21 rfl rfl rfl rfl) rfl (y_fieldAddr_elem (sz := 0) Tryd.runUnderlying40 rfl Tryd.sizeOf3 rfl) ?_
       refine still_y (wg 5 true 21 rfl rfl rfl rfl) rfl (y_load_field (i := i_5.toNat) (j := 0) 0 Tryd.isAgg3 rfl rfl reads_ro (map_get hxx11) rfl) ?_
       refine still_y (wg 5 true 21 rfl rfl rfl rfl) rfl (y_move rfl) ?_
       refine still_y (wg 5 true 21 rfl rfl rfl rfl) rfl (y_move rfl) ?_
       refine still_y (wg 5 true 21 rfl rfl rfl rfl) rfl (y_sub rfl rfl) ?_
       obtain ⟨x26, hzx26, hlx26, hxx26, h⟩ := idx_some h
       refine still_y (wg 5 true 21 rfl rfl rfl rfl) rfl (y_indexAddrI (kd := .i64) (i := (IntKind.i64.wrap (i_5 - 1))) 0 Tryd.runUnderlying22 Tryd.sizeOf40 rfl rfl rfl reads_ro hzx26 (map_lt hlx26)) ?_
       refine still_y (wg 5 true 21 rfl rfl rfl rfl) rfl (y_fieldAddr_elem (sz := 0) Tryd.runUnderlying40 rfl Tryd.sizeOf3 rfl) ?_
       refine still_y (wg 5 true 21 rfl rfl rfl rfl) rfl (y_load_field (i := ((IntKind.i64.wrap (i_5 - 1))).toNat) (j := 0) 0 Tryd.isAgg3 rfl rfl reads_ro (map_get hxx26) rfl) ?_
       refine still_y (wg 5 true 21 rfl rfl rfl rfl) rfl (y_add rfl rfl) ?_
       refine still_y (wg 5 true 21 rfl rfl rfl rfl) rfl (y_neq rfl rfl) ?_
       refine still_y (wg 5 true 21 rfl rfl rfl rfl) rfl (y_move rfl) ?_
       refine still_cut 20 (Bool) (fun σ => [(3, .int .i64 i_5), (0, l_0v), (18, .bool false), (21, .bool true), (55, .bool σ)]) (fun σ => [ro l_0v 20 (l_0.map S_api_Segment.enc)]) (fun σ => σ = (decide (x11.Num ≠ (IntKind.i64.wrap (x26.Num + 1))) || decide (x11.Begin ≠ (IntKind.i64.wrap (x26.Begin + x26.Len))))) (fun L27 hL28 => ?_) ?_
       ·refine still_split 35 (decide (x11.Num ≠ (IntKind.i64.wrap (x26.Num + 1)))) rfl (fun hg29 => ?_) (fun hg29 => ?_)
        ·skip
         refine still_no 19 false 35 rfl rfl rfl rfl rfl ?_
         refine still_no 19 false 35 rfl rfl rfl rfl rfl ?_
         refine still_no 19 false 35 rfl rfl rfl rfl rfl ?_
         refine still_no 19 false 35 rfl rfl rfl rfl rfl ?_
         refine still_no 19 false 35 rfl rfl rfl rfl rfl ?_
         refine still_no 19 false 35 rfl rfl rfl rfl rfl ?_
         refine still_no 19 false 35 rfl rfl rfl rfl rfl ?_
         refine still_no 19 false 35 rfl rfl rfl rfl rfl ?_
         refine still_no 19 false 35 rfl rfl rfl rfl rfl ?_
         refine still_no 19 false 35 rfl rfl rfl rfl rfl ?_
         refine still_no 19 false 35 rfl rfl rfl rfl rfl ?_
         refine still_no 19 false 35 rfl rfl rfl rfl rfl ?_
         refine still_no 19 false 35 rfl rfl rfl rfl rfl ?_
         refine still_no 19 false 35 rfl rfl rfl rfl rfl ?_
         refine still_no 19 false 35 rfl rfl rfl rfl rfl ?_
         refine still_no 19 false 35 rfl rfl rfl rfl rfl ?_
         refine still_no 19 false 35 rfl rfl rfl rfl rfl ?_
         refine still_no 19 false 35 rfl rfl rfl rfl rfl ?_
         refine still_no 19 false 35 rfl rfl rfl rfl rfl ?_
         refine still_y (wg 5 true 21 rfl rfl rfl rfl) rfl (y_pick (b := true) rfl rfl) ?_
         refine still_nil ?_
         exact goes_cut hL28 true [0] (qv5 rfl rfl rfl rfl rfl) (by decide) rfl (by rw [hg29]; simp)
        ·skip
         refine still_y (wg 19 false 35 rfl rfl rfl rfl) rfl (y_move rfl) ?_
         refine still_y (wg 19 false 35 rfl rfl rfl rfl) rfl (y_move rfl) ?_
         refine still_y (wg 19 false 35 rfl rfl rfl rfl) rfl (y_indexAddrI (kd := .i64) (i := i_5) 0 Tryd.runUnderlying22 Tryd.sizeOf40 rfl rfl rfl reads_ro hzx11 (map_lt hlx11)) ?_
         refine still_y (wg 19 false 35 rfl rfl rfl rfl) rfl (y_fieldAddr_elem (sz := 0) Tryd.runUnderlying40 rfl Tryd.sizeOf3 rfl) ?_
         refine still_y (wg 19 false 35 rfl rfl rfl rfl) rfl (y_load_field (i := i_5.toNat) (j := 1) 0 Tryd.isAgg3 rfl rfl reads_ro (map_get hxx11) rfl) ?_
         refine still_y (wg 19 false 35 rfl rfl rfl rfl) rfl (y_move rfl) ?_
         refine still_y (wg 19 false 35 rfl rfl rfl rfl) rfl (y_move rfl) ?_
         refine still_y (wg 19 false 35 rfl rfl rfl rfl) rfl (y_sub rfl rfl) ?_
         refine still_y (wg 19 false 35 rfl rfl rfl rfl) rfl (y_indexAddrI (kd := .i64) (i := (IntKind.i64.wrap (i_5 - 1))) 0 Tryd.runUnderlying22 Tryd.sizeOf40 rfl rfl rfl reads_ro hzx26 (map_lt hlx26)) ?_
         refine still_y (wg 19 false 35 rfl rfl rfl rfl) rfl (y_fieldAddr_elem (sz := 0) Tryd.runUnderlying40 rfl Tryd.sizeOf3 rfl) ?_
         refine still_y (wg 19 false 35 rfl rfl rfl rfl) rfl (y_load_field (i := ((IntKind.i64.wrap (i_5 - 1))).toNat) (j := 1) 0 Tryd.isAgg3 rfl rfl reads_ro (map_get hxx26) rfl) ?_
         refine still_y (wg 19 false 35 rfl rfl rfl rfl) rfl (y_move rfl) ?_
         refine still_y (wg 19 false 35 rfl rfl rfl rfl) rfl (y_move rfl) ?_
         refine still_y (wg 19 false 35 rfl rfl rfl rfl) rfl (y_sub rfl rfl) ?_
         refine still_y (wg 19 false 35 rfl rfl rfl rfl) rfl (y_indexAddrI (kd := .i64) (i := (IntKind.i64.wrap (i_5 - 1))) 0 Tryd.runUnderlying22 Tryd.sizeOf40 rfl rfl rfl reads_ro hzx26 (map_lt hlx26)) ?_
         refine still_y (wg 19 false 35 rfl rfl rfl rfl) rfl (y_fieldAddr_elem (sz := 0) Tryd.runUnderlying40 rfl Tryd.sizeOf3 rfl) ?_
         refine still_y (wg 19 false 35 rfl rfl rfl rfl) rfl (y_load_field (i := ((IntKind.i64.wrap (i_5 - 1))).toNat) (j := 2) 0 Tryd.isAgg3 rfl rfl reads_ro (map_get hxx26) rfl) ?_
         refine still_y (wg 19 false 35 rfl rfl rfl rfl) rfl (y_add rfl rfl) ?_
         refine still_y (wg 19 false 35 rfl rfl rfl rfl) rfl (y_neq rfl rfl) ?_
         refine still_y (wg 5 true 21 rfl rfl rfl rfl) rfl (y_pick (b := false) rfl rfl) ?_
         refine still_nil ?_
         exact goes_cut hL28 (decide (x11.Begin ≠ (IntKind.i64.wrap (x26.Begin + x26.Len)))) [0] (qv5 rfl rfl rfl rfl rfl) (by decide) rfl (by rw [hg29]; simp)
       rintro _ rfl
       refine still_y (wg 2 false 18 rfl rfl rfl rfl) rfl (y_pick (b := true) rfl rfl) ?_
       refine still_nil ?_
       obtain rfl := some_eq h
       exact goes_cut hL24 (decide (x11.Num ≠ (IntKind.i64.wrap (x26.Num + 1))) || decide (x11.Begin ≠ (IntKind.i64.wrap (x26.Begin + x26.Len)))) [0] (qv4 rfl rfl rfl rfl) (by decide) rfl rfl
      ·replace h := cond_f h hg25
       refine still_no 5 true 21 rfl rfl rfl rfl rfl ?_
       refine still_no 5 true 21 rfl rfl rfl rfl rfl ?_
       refine still_no 5 true 21 rfl rfl rfl rfl rfl ?_
       refine still_no 5 true 21 rfl rfl rfl rfl rfl ?_
       refine still_no 5 true 21 rfl rfl rfl rfl rfl ?_
       refine still_no 5 true 21 rfl rfl rfl rfl rfl ?_
       refine still_no 5 true 21 rfl rfl rfl rfl rfl ?_
       refine still_no 5 true 21 rfl rfl rfl rfl rfl ?_
       refine still_no 5 true 21 rfl rfl rfl rfl rfl ?_
       refine still_no 5 true 21 rfl rfl rfl rfl rfl ?_
       refine still_no 5 true 21 rfl rfl rfl rfl rfl ?_
       refine still_no 5 true 21 rfl rfl rfl rfl rfl ?_
       refine still_no 5 true 21 rfl rfl rfl rfl rfl ?_
       refine still_no 5 true 21 rfl rfl rfl rfl rfl ?_
       refine still_un 19 false 35 rfl rfl rfl rfl rfl ?_
       refine still_un 19 false 35 rfl rfl rfl rfl rfl ?_
       refine still_un 19 false 35 rfl rfl rfl rfl rfl ?_
       refine still_un 19 false 35 rfl rfl rfl rfl rfl ?_
       refine still_un 19 false 35 rfl rfl rfl rfl rfl ?_
       refine still_un 19 false 35 rfl rfl rfl rfl rfl ?_
       refine still_un 19 false 35 rfl rfl rfl rfl rfl ?_
       refine still_un 19 false 35 rfl rfl rfl rfl rfl ?_
       refine still_un 19 false 35 rfl rfl rfl rfl rfl ?_
       refine still_un 19 false 35 rfl rfl rfl rfl rfl ?_
       refine still_un 19 false 35 rfl rfl rfl rfl rfl ?_
       refine still_un 19 false 35 rfl rfl rfl rfl rfl ?_
       refine still_un 19 false 35 rfl rfl rfl rfl rfl ?_
       refine still_un 19 false 35 rfl rfl rfl rfl rfl ?_
       refine still_un 19 false 35 rfl rfl rfl rfl rfl ?_
       refine still_un 19 false 35 rfl rfl rfl rfl rfl ?_
       refine still_un 19 false 35 rfl rfl rfl rfl rfl ?_
       refine still_un 19 false 35 rfl rfl rfl rfl rfl ?_
       refine still_un 19 false 35 rfl rfl rfl rfl rfl ?_
       refine still_no 5 true 21 rfl rfl rfl rfl rfl ?_
       refine still_y (wg 2 false 18 rfl rfl rfl rfl) rfl (y_pick (b := false) rfl rfl) ?_
       refine still_nil ?_
       obtain rfl := some_eq h
       exact goes_cut hL24 false [0] (qv4 rfl rfl rfl rfl) (by decide) rfl rfl
     rintro b20 hj
     obtain rfl : o21 = _ := hj
     replace h := after_go ho22
     clear ho22
     refine sy rfl rfl (y_pick (b := false) rfl rfl) ?_
     refine still_nil ?_
     obtain rfl := some_eq h
     exact goes_cut hL18 b20 [0] (qv3 rfl rfl rfl) (by decide) rfl rfl
   rintro b14 hj
   obtain rfl : o15 = _ := hj
   replace h := after_go ho16
   clear ho16
   refine still_nil ?_
   refine goes_code ?_
   refine run_cond b14 rfl (fun hc30 => ?_) (fun hc30 => ?_)
   ·replace h := cond_t h hc30
    refine run_seq ?_
    refine run_region' ?_
    refine oy rfl rfl (y_assign rfl) ?_
    refine ops_nil ?_
    refine goes_code ?_
    refine run_ret ?_
    obtain rfl := some_eq h
    obtain rfl := hstop8 _ rfl
    skip
    obtain rfl := after_stop ho2
    refine fin_slots [2] [.bool false] [] [] Tryd.results7 rfl (by decide) rfl ?_
    exact ⟨rfl, rfl⟩
   ·replace h := cond_f h hc30
    refine run_skip ?_
    refine goes_blk ?_
    refine goes_code ?_
    refine run_region' ?_
    refine oy rfl rfl (y_move rfl) ?_
    refine oy rfl rfl (y_add rfl rfl) ?_
    refine oy rfl rfl (y_assign rfl) ?_
    refine ops_nil ?_
    obtain rfl := some_eq h
    exact goes_iter hgo7 (IntKind.i64.wrap (i_5 + 1)) () [0] rfl (qv2 rfl rfl) (by decide) rfl
  ·replace h := cond_f h hc10
   refine run_exit _ rfl ?_
   obtain rfl := some_eq h
   obtain rfl := hstop8 _ rfl
   exact goes_cut hL3 ((), ()) [0] (qv1 rfl) (by decide) rfl rfl
 rintro ⟨_, _⟩ hj
 obtain rfl : o1 = _ := hj
 replace h := after_go ho2
 clear ho2
 change Run _ _ _ (VF.of [(0, l_0v)]) [ro l_0v 20 (l_0.map S_api_Segment.enc)]
 refine run_seq ?_
 refine run_region' ?_
 refine oy rfl rfl (y_move rfl) ?_
 refine oy rfl rfl ((y_len 0 rfl Tryd.runUnderlying22 rfl rfl reads_ro).to (v_len S_api_Segment.enc _)) ?_
 refine oy rfl rfl (y_leq rfl rfl) ?_
 refine oy rfl rfl (y_assign rfl) ?_
 refine ops_nil ?_
 refine goes_code ?_
 refine run_ret ?_
 obtain rfl := some_eq h
 refine fin_slots [2] [.bool (decide ((l_0.length : Int) ≤ 1000))] [] [] Tryd.results7 rfl (by decide) rfl ?_
 exact ⟨rfl, rfl⟩

end Go.Proofs.YtbgpojdmdnkeaaaDoor
