/-
  Texts that stand side by side: AbsPlain, Pa, Pg, Ph, Pj, Pb, Pc, Pd, Pe, Pf, G3a, Pl.
-/
import Derived.Test.YtbgpojdmdnkeaaaGreatDoorM1
import Derived.Test.YtbgpojdmdnkeaaaGreatDoorFe
namespace Go.Abs
@[simp] theorem bindJ_go {S R : Type} (s : S) (k : S → Option R) : bindJ (some (.go s)) k = k s := rfl
@[simp] theorem bindJ_stop {S R : Type} (r : R) (k : S → Option R) : bindJ (some (.stop r)) k = some r := rfl
@[simp] theorem bindJ_none {S R : Type} (k : S → Option R) : bindJ (none : Option (Lp S R)) k = none := rfl
theorem need_pos {α : Type} {p : Prop} [Decidable p] (h : p) (x : Option α) : need p x = x := by simp [need, h]
theorem idx_get {α β : Type} {l : List α} {i : Nat} {x : α} (h : l[i]? = some x) (k : α → Option β) : idx l (i : Int) k = k x := by simp [idx, h]
theorem idx_get' {α β : Type} {l : List α} {i : Nat} (h : i < l.length) (k : α → Option β) : idx l (i : Int) k = k l[i] := idx_get (List.getElem?_eq_getElem h) k
theorem iter_go {S R : Type} {step : S → Option (Lp S R)} {n : Nat} {s s' : S} (h : step s = some (.go s')) : iter step (n + 1) s = iter step n s' := by simp [iter, h]
theorem iter_stop {S R : Type} {step : S → Option (Lp S R)} {n : Nat} {s : S} {r : R} (h : step s = some (.stop r)) : iter step (n + 1) s = some r := by simp [iter, h]
/-- a loop by an invariant and a measure -/
theorem iter_inv {S R : Type} {step : S → Option (Lp S R)} (inv : S → Prop) (μ : S → Nat) (post : R → Prop)
    (h : ∀ s, inv s → (∃ s', step s = some (.go s') ∧ inv s' ∧ μ s' < μ s) ∨ (∃ r, step s = some (.stop r) ∧ post r)) :
    ∀ (n : Nat) (s : S), inv s → μ s < n → ∃ r, iter step n s = some r ∧ post r
  | 0, s, _, hm => by omega
  | n + 1, s, hi, hm => by
    rcases h s hi with ⟨s', h1, h2, h3⟩ | ⟨r, h1, h2⟩
    · obtain ⟨r, h4, h5⟩ := iter_inv inv μ post h n s' h2 (by omega)
      exact ⟨r, by rw [iter_go h1, h4], h5⟩
    · exact ⟨r, iter_stop h1, h2⟩
theorem w64 {x : Int} (h1 : -9223372036854775808 ≤ x) (h2 : x ≤ 9223372036854775807) : IntKind.i64.wrap x = x := wrap_i64 h1 h2
end Go.Abs
namespace Go.Abs
/-- a walk along a list that may stop -/
def foldL {α S R : Type} (f : S → α → Lp S R) (fin : S → R) : S → List α → R
  | s, [] => fin s
  | s, x :: r => match f s x with
    | .go s' => foldL f fin s' r
    | .stop q => q
def Lp.mapS {S T R : Type} (g : S → T) : Lp S R → Lp T R
  | .go s => .go (g s)
  | .stop r => .stop r
@[simp] theorem mapS_go {S T R : Type} (g : S → T) (s : S) : (Lp.go s : Lp S R).mapS g = .go (g s) := rfl
@[simp] theorem mapS_stop {S T R : Type} (g : S → T) (r : R) : (Lp.stop r : Lp S R).mapS g = .stop r := rfl
/-- a loop that counts along a list -/
theorem iter_fold {α S T R : Type} {step : T → Option (Lp T R)} {l : List α} (mk : Nat → S → T) (f : S → α → Lp S R) (fin : S → R) (inv : Nat → S → Prop)
    (hgo : ∀ i s x, inv i s → l[i]? = some x → step (mk i s) = some ((f s x).mapS (mk (i + 1))) ∧ ∀ s', f s x = .go s' → inv (i + 1) s')
    (hend : ∀ s, inv l.length s → step (mk l.length s) = some (.stop (fin s))) :
    ∀ (n i : Nat) (s : S), inv i s → i ≤ l.length → l.length - i < n → iter step n (mk i s) = some (foldL f fin s (l.drop i))
  | 0, i, s, _, _, h => by omega
  | n + 1, i, s, hi, hle, h => by
    by_cases e : i = l.length
    · subst e
      rw [iter_stop (hend s hi), List.drop_length]; rfl
    · have hlt : i < l.length := by omega
      obtain ⟨h1, h2⟩ := hgo i s _ hi (List.getElem?_eq_getElem hlt)
      rw [List.drop_eq_getElem_cons hlt]
      cases hf : f s l[i] with
      | go s' =>
        rw [hf] at h1
        rw [iter_go h1, iter_fold mk f fin inv hgo hend n (i + 1) s' (h2 s' hf) (by omega) (by omega)]
        simp [foldL, hf]
      | stop q =>
        rw [hf] at h1
        rw [iter_stop h1]
        simp [foldL, hf]
theorem foldL_go {α S R : Type} {f : S → α → Lp S R} {fin : S → R} (g : S → α → S) (h : ∀ s x, f s x = .go (g s x)) : ∀ (l : List α) (s : S), foldL f fin s l = fin (l.foldl g s)
  | [], s => rfl
  | x :: r, s => by simp only [foldL, h, List.foldl_cons]; exact foldL_go g h r _
end Go.Abs
namespace Go.Abs
theorem foldL_gom {α S R : Type} {f : S → α → Lp S R} {fin : S → R} (g : S → α → S) : ∀ (l : List α) (s : S), (∀ s x, x ∈ l → f s x = .go (g s x)) → foldL f fin s l = fin (l.foldl g s)
  | [], s, _ => rfl
  | x :: r, s, h => by
    simp only [foldL, h s x (List.mem_cons_self ..), List.foldl_cons]
    exact foldL_gom g r _ (fun s y hy => h s y (List.mem_cons_of_mem _ hy))
/-- a loop that counts up to N -/
theorem iter_range {S T R : Type} {step : T → Option (Lp T R)} (N : Nat) (mk : Nat → S → T) (f : S → Nat → Lp S R) (fin : S → R) (inv : Nat → S → Prop)
    (hgo : ∀ i s, inv i s → i < N → step (mk i s) = some ((f s i).mapS (mk (i + 1))) ∧ ∀ s', f s i = .go s' → inv (i + 1) s')
    (hend : ∀ s, inv N s → step (mk N s) = some (.stop (fin s))) (n : Nat) (s : S) (h0 : inv 0 s) (hn : N < n) : iter step n (mk 0 s) = some (foldL f fin s (List.range N)) := by
  have := iter_fold (l := List.range N) mk f fin inv (fun i s x hi hx => by
    have hlt := (List.getElem?_eq_some_iff.1 hx).1
    simp at hlt
    have : x = i := by simp [hlt] at hx; exact hx.symm
    subst this
    exact hgo x s hi hlt) (fun s hs => by simpa using hend s (by simpa using hs)) n 0 s h0 (Nat.zero_le _) (by simpa using hn)
  simpa using this
theorem iter_allgo {R : Type} {step : Int → Option (Lp Int R)} (N : Nat) (q : R) (h : ∀ i : Nat, i < N → step (i : Int) = some (.go ((i + 1 : Nat) : Int))) (he : step (N : Int) = some (.stop q)) (n : Nat) (hn : N < n) : iter step n 0 = some q := by
  have := iter_range (step := step) N (fun (i : Nat) (_ : Unit) => (i : Int)) (fun _ _ => Lp.go ()) (fun _ => q) (fun _ _ => True) (fun i s _ hi => ⟨h i hi, fun _ _ => trivial⟩) (fun s _ => he) n () trivial hn
  rw [foldL_gom (fun _ _ => ()) _ _ (fun _ _ _ => rfl)] at this
  exact this
end Go.Abs
namespace Go.Proofs.YtbgpojdmdnkeaaaGreatDoor
open Go.Abs
set_option linter.unusedSimpArgs false
set_option linter.unusedVariables false
theorem sane (n : Nat) : law43_sanity (n + 40) = some true := by kernel_rfl
def okSeg (s : S_api_Segment) : Prop := 0 ≤ s.Num ∧ s.Num ≤ 1099511627776 ∧ 0 ≤ s.Begin ∧ s.Begin ≤ 1099511627776 ∧ 1 ≤ s.Len ∧ s.Len ≤ 60000 ∧ 0 ≤ s.Size ∧ s.Size ≤ 1099511627776
instance (s : S_api_Segment) : Decidable (okSeg s) := by unfold okSeg; exact inferInstance
theorem right_eq (s : S_api_Segment) : playlist_right s = some (decide (okSeg s)) := by
  unfold playlist_right
  congr 1
  rw [Bool.eq_iff_iff]
  simp only [Bool.and_eq_true, decide_eq_true_eq]
  unfold okSeg
  omega
def joins (a b : S_api_Segment) : Prop := b.Num = a.Num + 1 ∧ b.Begin = a.Begin + a.Len
instance (a b : S_api_Segment) : Decidable (joins a b) := by unfold joins; exact inferInstance
theorem end_eq {s : S_api_Segment} (h : okSeg s) : playlist_end s = some (s.Begin + s.Len) := by
  unfold playlist_end
  unfold okSeg at h
  rw [w64 (by omega) (by omega)]
def Strm (l : List S_api_Segment) : Prop := (∀ i (h : i < l.length), okSeg l[i]) ∧ ∀ i (h : i + 1 < l.length), joins l[i] l[i + 1]
theorem stream_loop (l : List S_api_Segment) (hl : l.length ≤ 4294967296) (n : Nat) (hn : l.length < n) :
    ∃ r, iter (playlist_stream_L1 l) n 0 = some r ∧ ((r = .go () ∧ Strm l) ∨ (r = .stop false ∧ ¬ Strm l)) := by
  refine iter_inv (step := playlist_stream_L1 l) (fun s : Int => ∃ i : Nat, s = i ∧ i ≤ l.length ∧ (∀ j (h : j < l.length), j < i → okSeg l[j]) ∧ ∀ j (h : j + 1 < l.length), j + 1 < i → joins l[j] l[j + 1]) (fun s => l.length - s.toNat) _ ?_ n 0 ⟨0, rfl, Nat.zero_le _, fun j h hj => by omega, fun j h hj => by omega⟩ (by simpa using hn)
  rintro s ⟨i, rfl, hi, hok, hj⟩
  unfold playlist_stream_L1
  by_cases hlt : i < l.length
  · have e : decide ((i : Int) < (l.length : Int)) = true := by simpa using hlt
    simp only [e, cond_true]
    rw [idx_get' hlt, right_eq]
    simp only [obind, Option.bind_some]
    by_cases hk : okSeg l[i]
    · simp only [hk, decide_true, Bool.not_true, cond_false]
      by_cases h0 : i = 0
      · subst h0
        left
        refine ⟨1, by simp [w64], ⟨1, rfl, by omega, fun j h hj' => ?_, fun j h hj' => by omega⟩, by simp; omega⟩
        obtain rfl : j = 0 := by omega
        exact hk
      · have e1 : decide (0 < (i : Int)) = true := by simp; omega
        simp only [e1, cond_true]
        have hp : i - 1 < l.length := by omega
        rw [w64 (x := (i : Int) - 1) (by omega) (by omega), show (i : Int) - 1 = ((i - 1 : Nat) : Int) by omega, idx_get' hp]
        have hkp := hok (i - 1) hp (by omega)
        rw [end_eq hkp]
        have hkp' := hkp
        unfold okSeg at hkp'
        rw [w64 (x := l[i - 1].Num + 1) (by omega) (by omega)]
        simp only [obind, Option.bind_some]
        by_cases hjn : joins l[i - 1] l[i]
        · left
          obtain ⟨j1, j2⟩ := hjn
          refine ⟨((i + 1 : Nat) : Int), ?_, ⟨i + 1, rfl, by omega, fun j h hj' => ?_, fun j h hj' => ?_⟩, by simp; omega⟩
          · simp only [j1, j2, ne_eq, not_true_eq_false, decide_false, cond_false, bindJ_go]
            rw [w64 (x := (i : Int) + 1) (by omega) (by omega)]; rfl
          · by_cases e : j = i
            · subst e; exact hk
            · exact hok j h (by omega)
          · by_cases e : j + 1 = i
            · subst e; exact ⟨j1, j2⟩
            · exact hj j h (by omega)
        · right
          refine ⟨.stop false, ?_, .inr ⟨rfl, fun hS => hjn ?_⟩⟩
          · by_cases hn : l[i].Num = l[i - 1].Num + 1
            · have hb : ¬ l[i].Begin = l[i - 1].Begin + l[i - 1].Len := fun h => hjn ⟨hn, h⟩
              simp [hn, hb]
            · simp [hn]
          · have := hS.2 (i - 1) (by omega)
            simpa [show i - 1 + 1 = i by omega] using this
    · right
      refine ⟨.stop false, by simp [hk], .inr ⟨rfl, fun hS => hk (hS.1 i hlt)⟩⟩
  · have e : decide ((i : Int) < (l.length : Int)) = false := by simp; omega
    right
    exact ⟨.go (), by simp only [e, cond_false], .inl ⟨rfl, fun j h => hok j h (by omega), fun j h => hj j h (by omega)⟩⟩
open Classical in
theorem stream_eq (l : List S_api_Segment) (hl : l.length ≤ 4294967296) (n : Nat) (hn : l.length < n) : playlist_stream n l = some (decide (Strm l ∧ l.length ≤ 1000)) := by
  unfold playlist_stream
  obtain ⟨r, e, h⟩ := stream_loop l hl n hn
  rw [e]
  rcases h with ⟨rfl, h⟩ | ⟨rfl, h⟩
  · have e1 : ((l.length : Int) ≤ 1000) ↔ (Strm l ∧ l.length ≤ 1000) := ⟨fun q => ⟨h, by omega⟩, fun q => by have := q.2; omega⟩
    simp only [bindJ_go, e1]
  · have e1 : ¬ (Strm l ∧ l.length ≤ 1000) := fun q => h q.1
    simp only [bindJ_stop, e1, decide_false]
def VP (p : S_api_Playlist) : Prop := 0 ≤ p.First ∧ p.First ≤ 1099511627776 ∧ p.L.length ≤ 100 ∧ (∀ h : 0 < p.L.length, p.L[0].Num = p.First) ∧ Strm p.L
open Classical in
theorem valid_eq (p : S_api_Playlist) (n : Nat) (hn : 101 < n) : playlist_Valid n p = some (decide (VP p)) := by
  unfold playlist_Valid
  by_cases h1 : 0 ≤ p.First ∧ p.First ≤ 1099511627776 ∧ p.L.length ≤ 100
  · obtain ⟨a1, a2, a3⟩ := h1
    have e : ((decide (0 ≤ p.First) && decide (p.First ≤ 1099511627776)) && decide ((p.L.length : Int) ≤ 100)) = true := by simp only [Bool.and_eq_true, decide_eq_true_eq]; omega
    rw [e]
    simp only [cond_true]
    rw [stream_eq p.L (by omega) n (by omega)]
    have hS : (Strm p.L ∧ p.L.length ≤ 1000) ↔ Strm p.L := ⟨fun q => q.1, fun q => ⟨q, by omega⟩⟩
    by_cases h0 : p.L.length = 0
    · have e0 : decide ((p.L.length : Int) = 0) = true := decide_eq_true (by omega)
      have hV : VP p ↔ Strm p.L := ⟨fun h => h.2.2.2.2, fun h => ⟨a1, a2, a3, fun h' => absurd h' (by omega), h⟩⟩
      simp only [e0, cond_true, bindJ_go, obind, Option.bind_some, hS, hV]
    · have e0 : decide ((p.L.length : Int) = 0) = false := decide_eq_false (by omega)
      have hp : 0 < p.L.length := by omega
      simp only [e0, cond_false]
      rw [show (0 : Int) = ((0 : Nat) : Int) from rfl, idx_get' hp]
      by_cases hf : p.L[0].Num = p.First
      · have hV : VP p ↔ Strm p.L := ⟨fun h => h.2.2.2.2, fun h => ⟨a1, a2, a3, fun h' => hf, h⟩⟩
        simp only [hf, decide_true, bindJ_go, cond_true, obind, Option.bind_some, hS, hV]
      · have hV : ¬ VP p := fun h => hf (h.2.2.2.1 hp)
        simp only [hf, decide_false, bindJ_go, cond_false, hV]
  · have e : ((decide (0 ≤ p.First) && decide (p.First ≤ 1099511627776)) && decide ((p.L.length : Int) ≤ 100)) = false := by
      rw [Bool.eq_false_iff]; intro h; simp only [Bool.and_eq_true, decide_eq_true_eq] at h; omega
    have hV : ¬ VP p := fun h => h1 ⟨h.1, h.2.1, h.2.2.1⟩
    simp only [e, cond_false, bindJ_go, hV, decide_false]
end Go.Proofs.YtbgpojdmdnkeaaaGreatDoor
namespace Go.Proofs.YtbgpojdmdnkeaaaGreatDoor
open Go.Abs
set_option linter.unusedSimpArgs false
set_option linter.unusedVariables false
end Go.Proofs.YtbgpojdmdnkeaaaGreatDoor
namespace Go.Proofs.YtbgpojdmdnkeaaaGreatDoor
open Go.Abs
set_option linter.unusedSimpArgs false
set_option linter.unusedVariables false
end Go.Proofs.YtbgpojdmdnkeaaaGreatDoor
namespace Go.Proofs.YtbgpojdmdnkeaaaGreatDoor
open Go.Abs
set_option linter.unusedSimpArgs false
set_option linter.unusedVariables false
/-- what one playlist has, the other has, too, or does not speak of it -/
def Agree (e l : S_api_Playlist) : Prop := ∀ i (hi : i < e.L.length) j (hj : j < l.L.length), e.L[i].Num = l.L[j].Num → l.L[j] = e.L[i]
end Go.Proofs.YtbgpojdmdnkeaaaGreatDoor
namespace Go.Proofs.YtbgpojdmdnkeaaaGreatDoor
open Go.Abs
set_option linter.unusedSimpArgs false
set_option linter.unusedVariables false
def digs : List UInt8 := [48, 49, 50, 51, 52, 53, 54, 55, 56, 57, 97, 98, 99, 100, 101, 102]
def hexd (n : Nat) : UInt8 := (digs[n]?).getD 0
def okDig (d : S_api_Digest) : Prop := ∀ b ∈ d.toL, 0 ≤ b ∧ b < 256
def hexP (l : List Int) : List UInt8 := l.flatMap fun b => [hexd (b.toNat / 16), hexd (b.toNat % 16)]
set_option maxRecDepth 100000 in
theorem hi_dec : ∀ b : Fin 256, Int.fdiv ((b.val : Nat) : Int) (2 ^ (min ((4 : Int).toNat) IntKind.u8.bits)) = ((b.val / 16 : Nat) : Int) := by decide +kernel
set_option maxRecDepth 100000 in
theorem lo_dec : ∀ b : Fin 256, bitAnd .u8 ((b.val : Nat) : Int) 15 = ((b.val % 16 : Nat) : Int) := by decide +kernel
theorem digs_at {n : Nat} (h : n < 16) : digs[n]? = some (hexd n) := by
  unfold hexd
  rw [List.getElem?_eq_getElem (show n < digs.length from h)]; rfl
theorem hex_loop {St : Type} (x : S_api_Segment) (hx : okDig x.Body) (n : Nat) (hn : 16 < n) :
    iter (playlist_lines_1_70_L2 (St := St) x) n ([], 0) = some (.go (hexP x.Body.toL)) := by
  have h16 : x.Body.toL.length = 16 := rfl
  have key := iter_range (step := playlist_lines_1_70_L2 (St := St) x) 16 (fun i (hex : List UInt8) => (hex, (i : Int))) (fun hex i => .go (hex ++ [hexd ((x.Body.toL[i]?.getD 0).toNat / 16), hexd ((x.Body.toL[i]?.getD 0).toNat % 16)])) (fun hex => .go hex) (fun i hex => hex.length = 2 * i) (by
    intro i hex hl hi
    refine ⟨?_, fun s' hs' => by cases hs'; simp; omega⟩
    unfold playlist_lines_1_70_L2
    have e : decide ((i : Int) < 16) = true := by simp; omega
    simp only [e, cond_true]
    rw [need_pos (by omega)]
    have hg : S_api_Digest.get x.Body (i : Int) = x.Body.toL[i]'(by omega) := by
      unfold S_api_Digest.get
      rw [Int.toNat_natCast, List.getElem?_eq_getElem (by omega)]; rfl
    have hb := hx _ (List.getElem_mem (show i < x.Body.toL.length by omega))
    rw [hg, List.getElem?_eq_getElem (show i < x.Body.toL.length by omega)]
    generalize x.Body.toL[i]'(by omega) = b at hb
    simp only [obind, Option.bind_some, Option.getD_some]
    obtain ⟨m, rfl⟩ : ∃ m : Nat, b = m := ⟨b.toNat, by omega⟩
    have h1 := hi_dec ⟨m, by omega⟩
    have h2 := lo_dec ⟨m, by omega⟩
    simp only at h1 h2
    rw [h1, h2]
    have := idx_get (β := Lp (List UInt8 × Int) (Lp (List UInt8) (Lp (Int × St) (Lp St St)))) (digs_at (n := m / 16) (by omega))
    rw [show ([48, 49, 50, 51, 52, 53, 54, 55, 56, 57, 97, 98, 99, 100, 101, 102] : List UInt8) = digs from rfl, this]
    have := idx_get (β := Lp (List UInt8 × Int) (Lp (List UInt8) (Lp (Int × St) (Lp St St)))) (digs_at (n := m % 16) (by omega))
    rw [this, need_pos (by simp; omega), w64 (by omega) (by omega)]
    simp) (by
    intro hex _
    unfold playlist_lines_1_70_L2
    simp) n [] rfl hn
  have e : iter (playlist_lines_1_70_L2 (St := St) x) n ([], 0) = _ := key
  rw [e, foldL_go (fun (hex : List UInt8) (i : Nat) => hex ++ [hexd ((x.Body.toL[i]?.getD 0).toNat / 16), hexd ((x.Body.toL[i]?.getD 0).toNat % 16)]) (fun _ _ => rfl)]
  rfl
/-- one line -/
def lineP (s : S_api_Segment) : List UInt8 := itoaP s.Begin ++ 32 :: (itoaP s.Len ++ 32 :: (itoaP s.Size ++ 32 :: hexP s.Body.toL))
def headP (p : S_api_Playlist) : List UInt8 := [108, 105, 118, 101, 32] ++ itoaP p.First
def linesP (p : S_api_Playlist) : List (List UInt8) := headP p :: (p.L.map lineP ++ if p.Done then [[100, 111, 110, 101]] else [])
def textP (p : S_api_Playlist) : List UInt8 := (linesP p).flatMap fun l => l ++ [10]
theorem join4 (a b c d : List UInt8) : joinP [a, b, c, d] [32] = a ++ 32 :: (b ++ 32 :: (c ++ 32 :: d)) := by
  simp [joinP, List.intercalate, List.intersperse]
theorem decF_len : ∀ k u, (decF k u).length ≤ k
  | 0, _ => Nat.le_refl _
  | k + 1, u => by
    unfold decF
    split
    · simp
    · have := decF_len k (u / 10); simp; omega
theorem itoaP_len (n : Int) : (itoaP n).length ≤ 21 := by
  unfold itoaP
  split
  · have := decF_len 20 n.natAbs; simp; omega
  · have := decF_len 20 n.toNat; omega
theorem hexP_len (l : List Int) : (hexP l).length = 2 * l.length := by
  induction l with
  | nil => rfl
  | cons x r ih => unfold hexP at ih ⊢; rw [List.flatMap_cons, List.length_append, ih]; simp; omega
theorem lineP_len (s : S_api_Segment) : (lineP s).length ≤ 98 := by
  unfold lineP
  have h1 := itoaP_len s.Begin; have h2 := itoaP_len s.Len; have h3 := itoaP_len s.Size; have h4 := hexP_len s.Body.toL
  have h5 : s.Body.toL.length = 16 := rfl
  simp; omega
theorem itoa_ok {n : Int} (h0 : -9223372036854775808 ≤ n) (h1 : n ≤ 9223372036854775807) : itoaH n = some (itoaP n) := need_pos ⟨h0, h1⟩ _
theorem yield_ok {out x : List UInt8} (h : out.length + x.length ≤ 1000000) : yieldOf playlist_Text_R1 (out, none) x = some ((out ++ (x ++ [10]), none), true) := by
  unfold yieldOf playlist_Text_R1
  simp only
  rw [need_pos (by simp; omega), need_pos (by simp; omega)]
  rfl
theorem foldl_flat {α β : Type} (f : α → List β) : ∀ (l : List α) (o : List β), l.foldl (fun o s => o ++ f s) o = o ++ l.flatMap f
  | [], o => by simp
  | x :: r, o => by rw [List.foldl_cons, foldl_flat f r]; simp
theorem lines_loop (p : S_api_Playlist) (hp : VP p) (hd : ∀ s ∈ p.L, okDig s.Body) (out : List UInt8) (ho : out.length ≤ 1000) (n : Nat) (hn : 101 < n) :
    iter (playlist_lines_1_70_L1 n (yieldOf playlist_Text_R1) p) n (0, (out, none)) = some (.go (out ++ p.L.flatMap fun s => lineP s ++ [10], none)) := by
  have hL := hp.2.2.1
  have key := iter_fold (l := p.L) (step := playlist_lines_1_70_L1 n (yieldOf playlist_Text_R1) p) (fun i (o : List UInt8) => ((i : Int), (o, (none : Option Nat)))) (fun o s => .go (o ++ (lineP s ++ [10]))) (fun o => .go (o, none)) (fun i o => o.length ≤ 1000 + 100 * i) (by
    intro i o s hl hs
    obtain ⟨hi, rfl⟩ := List.getElem?_eq_some_iff.1 hs
    have hln := lineP_len p.L[i]
    refine ⟨?_, fun s' hs' => by cases hs'; simp; omega⟩
    unfold playlist_lines_1_70_L1
    have e : decide ((i : Int) < (p.L.length : Int)) = true := by simpa using hi
    have hk := hp.2.2.2.2.1 i hi
    unfold okSeg at hk
    simp only [e, cond_true]
    rw [idx_get' hi, hex_loop _ (hd _ (List.getElem_mem hi)) n (by omega), bindJ_go, itoa_ok (by omega) (by omega), itoa_ok (by omega) (by omega), itoa_ok (by omega) (by omega)]
    simp only [obind, Option.bind_some]
    have hj : joinH [itoaP p.L[i].Begin, itoaP p.L[i].Len, itoaP p.L[i].Size, hexP p.L[i].Body.toL] [32] = some (lineP p.L[i]) := by
      unfold joinH
      rw [join4]
      exact need_pos ⟨by simp, by simp, by show (lineP p.L[i]).length ≤ _; omega⟩ _
    rw [hj]
    simp only [Option.bind_some]
    rw [yield_ok (by omega)]
    simp only [Option.bind_some, Bool.not_true, cond_false]
    rw [w64 (by omega) (by omega)]
    simp) (by
    intro o _
    unfold playlist_lines_1_70_L1
    simp) n 0 out (by omega) (Nat.zero_le _) (by omega)
  have e : iter (playlist_lines_1_70_L1 n (yieldOf playlist_Text_R1) p) n (0, (out, none)) = _ := key
  rw [e, List.drop_zero, foldL_go (fun (o : List UInt8) (s : S_api_Segment) => o ++ (lineP s ++ [10])) (fun _ _ => rfl)]
  rw [foldl_flat]
open Classical in
theorem text_eq (p : S_api_Playlist) (hd : ∀ s ∈ p.L, okDig s.Body) (n : Nat) (hn : 101 < n) : playlist_Text n p = some (if VP p then (textP p, 0) else ([], 3)) := by
  unfold playlist_Text
  rw [valid_eq p n hn]
  by_cases hp : VP p
  · have h1 := hp.1
    have h2 := hp.2.1
    have hl := itoaP_len p.First
    have hL := hp.2.2.1
    simp only [hp, decide_true, obind, Option.bind_some, Bool.not_true, cond_false, if_true]
    unfold playlist_lines playlist_lines_1_70
    rw [itoa_ok (by omega) (by omega)]
    simp only [obind, Option.bind_some]
    rw [need_pos (by simp; omega), yield_ok (by simp; omega)]
    simp only [Option.bind_some, Bool.not_true, cond_false]
    rw [lines_loop p hp hd _ (by simp; omega) n hn, bindJ_go]
    have hlen : ∀ l : List S_api_Segment, (l.flatMap fun s => lineP s ++ [10]).length ≤ 100 * l.length := by
      intro l
      induction l with
      | nil => simp
      | cons x r ih => have := lineP_len x; rw [List.flatMap_cons, List.length_append, List.length_append]; simp only [List.length_cons, List.length_nil]; omega
    have hle := hlen p.L
    unfold textP linesP headP
    cases hD : p.Done with
    | false =>
      simp only [cond_false, Option.bind_some, onJump]
      simp [List.flatMap_map]
    | true =>
      simp only [cond_true]
      rw [yield_ok (by simp only [List.length_append, List.length_cons, List.length_nil]; omega)]
      simp only [Option.bind_some, onJump]
      simp [List.flatMap_map]
  · simp only [hp, decide_false, obind, Option.bind_some, Bool.not_false, cond_true, if_false]
end Go.Proofs.YtbgpojdmdnkeaaaGreatDoor
namespace Go.Proofs.YtbgpojdmdnkeaaaGreatDoor
open Go.Abs
set_option linter.unusedSimpArgs false
set_option linter.unusedVariables false
def numP (s : List UInt8) : Option Int := match Lib.atoiAll s with
  | .ok v => if itoaP v = s then some v else none
  | _ => none
def toPn {A : Type} : Option A → Pn A
  | some a => .ret a
  | none => .pan 3
theorem number_eq (s : List UInt8) (hs : s.length ≤ 4294967296) : playlist_number s = some (toPn (numP s)) := by
  unfold playlist_number atoiH numP
  rw [need_pos hs]
  unfold atoiP
  cases h : Lib.atoiAll s with
  | ok v =>
    obtain ⟨b1, b2⟩ := Lib.atoiAll_bounds h
    have e1 : IntKind.i64.min = -9223372036854775808 := rfl
    have e2 : IntKind.i64.max = 9223372036854775807 := rfl
    simp only [obind, Option.bind_some, cond_true]
    rw [itoa_ok (by omega) (by omega)]
    simp only [Option.bind_some, bindJ_go]
    by_cases hk : itoaP v = s
    · simp only [hk, decide_true, if_true]; rfl
    · simp only [hk, decide_false, if_false]; rfl
  | range => rfl
  | _ => rfl
theorem byte_back (c : UInt8) : ((c.toNat : Nat) : Int).toNat.toUInt8 = c := by simp
def chr (x : List UInt8) (i : Nat) : UInt8 := (x[i]?).getD 0
def good (x : List UInt8) (j : Nat) : Prop := 0 ≤ idxP digs (chr x (2 * j)) ∧ 0 ≤ idxP digs (chr x (2 * j + 1))
instance (x : List UInt8) (j : Nat) : Decidable (good x j) := by unfold good; exact inferInstance
def val (x : List UInt8) (j : Nat) : Int := 16 * idxP digs (chr x (2 * j)) + idxP digs (chr x (2 * j + 1))
theorem idxN_lt (c : UInt8) : ∀ (l : List UInt8) (n : Nat), idxN c l = some n → n < l.length
  | [], n, h => by simp [idxN] at h
  | b :: r, n, h => by
    unfold idxN at h
    split at h
    · simp at h; subst h; simp
    · cases hr : idxN c r with
      | none => rw [hr] at h; simp at h
      | some m => rw [hr] at h; simp at h; have := idxN_lt c r m hr; simp; omega
theorem idxP_lt (c : UInt8) : -1 ≤ idxP digs c ∧ idxP digs c < 16 := by
  unfold idxP
  cases h : idxN c digs with
  | none => simp
  | some n => have := idxN_lt c digs n h; simp [digs] at this; simp; omega
theorem w8 {x : Int} (h0 : 0 ≤ x) (h1 : x < 256) : IntKind.u8.wrap x = x := by
  obtain ⟨m, rfl⟩ : ∃ m : Nat, x = m := ⟨x.toNat, by omega⟩
  have : ∀ b : Fin 256, IntKind.u8.wrap ((b.val : Nat) : Int) = ((b.val : Nat) : Int) := by decide +kernel
  exact this ⟨m, by omega⟩
def tupS (i : Nat) (d : S_api_Digest) := ((i : Int), d.a0_, d.a1_, d.a2_, d.a3_, d.a4_, d.a5_, d.a6_, d.a7_, d.a8_, d.a9_, d.a10_, d.a11_, d.a12_, d.a13_, d.a14_, d.a15_)
def tupD (d : S_api_Digest) := (d.a0_, d.a1_, d.a2_, d.a3_, d.a4_, d.a5_, d.a6_, d.a7_, d.a8_, d.a9_, d.a10_, d.a11_, d.a12_, d.a13_, d.a14_, d.a15_)
theorem seg_loop (r2 : List (List UInt8)) (x : List UInt8) (hr : r2[3]? = some x) (hx : x.length = 32) (n : Nat) (hn : 16 < n) :
    ∃ r, iter (playlist_segment_L1 r2) n (0, 0, 0, 0, 0, 0, 0, 0, 0, 0, 0, 0, 0, 0, 0, 0, 0) = some r ∧
      ((∃ d, r = .go (tupD d) ∧ (∀ j, j < 16 → good x j) ∧ d.toL = (List.range 16).map (val x)) ∨ (r = .stop (.pan 3) ∧ ∃ j, j < 16 ∧ ¬ good x j)) := by
  refine iter_inv (step := playlist_segment_L1 r2) (fun s => ∃ (i : Nat) (d : S_api_Digest), s = tupS i d ∧ i ≤ 16 ∧ (∀ j, j < i → good x j) ∧ d.toL = (List.range 16).map fun j => if j < i then val x j else 0) (fun s => 16 - s.1.toNat) _ ?_ n _ ⟨0, ⟨0, 0, 0, 0, 0, 0, 0, 0, 0, 0, 0, 0, 0, 0, 0, 0⟩, rfl, by omega, fun j hj => by omega, rfl⟩ (by simpa using hn)
  rintro s ⟨i, d, rfl, hi, hg, hd⟩
  by_cases hlt : i < 16
  · have e : decide ((i : Int) < 16) = true := by simp; omega
    have c1 : x[2 * i]? = some (chr x (2 * i)) := by unfold chr; rw [List.getElem?_eq_getElem (by omega)]; rfl
    have c2 : x[2 * i + 1]? = some (chr x (2 * i + 1)) := by unfold chr; rw [List.getElem?_eq_getElem (by omega)]; rfl
    have l1 := idxP_lt (chr x (2 * i)); have l2 := idxP_lt (chr x (2 * i + 1))
    unfold playlist_segment_L1 tupS
    simp only [e, cond_true]
    rw [show (3 : Int) = ((3 : Nat) : Int) from rfl, idx_get hr, w64 (x := 2 * (i : Int)) (by omega) (by omega), show 2 * (i : Int) = ((2 * i : Nat) : Int) by omega, idx_get c1,
      w64 (x := ((2 * i : Nat) : Int) + 1) (by omega) (by omega), show ((2 * i : Nat) : Int) + 1 = ((2 * i + 1 : Nat) : Int) by omega, idx_get c2]
    simp only [idxH, obind, Option.bind_some, byte_back]
    rw [show ([48, 49, 50, 51, 52, 53, 54, 55, 56, 57, 97, 98, 99, 100, 101, 102] : List UInt8) = digs from rfl]
    by_cases hk : good x i
    · left
      have e1 : (decide (0 ≤ idxP digs (chr x (2 * i))) && decide (0 ≤ idxP digs (chr x (2 * i + 1)))) = true := by simp only [Bool.and_eq_true, decide_eq_true_eq]; exact hk
      obtain ⟨k1, k2⟩ := hk
      rw [w64 (x := 16 * idxP digs (chr x (2 * i))) (by omega) (by omega), w64 (x := 16 * idxP digs (chr x (2 * i)) + idxP digs (chr x (2 * i + 1))) (by omega) (by omega), w8 (x := 16 * idxP digs (chr x (2 * i)) + idxP digs (chr x (2 * i + 1))) (by omega) (by omega)]
      simp only [playlist_must, e1, Bool.not_true, cond_false, Option.bind_some, pbind]
      rw [need_pos (by omega), w64 (x := (i : Int) + 1) (by omega) (by omega)]
      refine ⟨_, rfl, ⟨i + 1, S_api_Digest.put d (i : Int) (val x i), rfl, by omega, fun j hj => ?_, ?_⟩, ?_⟩
      · by_cases e : j = i
        · subst e; exact ⟨k1, k2⟩
        · exact hg j (by omega)
      · rw [S_api_Digest.put_toL, hd, Int.toNat_natCast]
        apply List.ext_getElem
        · simp
        · intro j h1 h2
          simp at h1
          rw [List.getElem_set]
          by_cases e : i = j
          · subst e; simp
          · simp [e]; by_cases h3 : j < i
            · simp [h3, show j < i + 1 by omega]
            · simp [h3, show ¬ j < i + 1 by omega]
      · simp; omega
    · right
      have e1 : (decide (0 ≤ idxP digs (chr x (2 * i))) && decide (0 ≤ idxP digs (chr x (2 * i + 1)))) = false := by
        rw [Bool.eq_false_iff]; intro h; simp only [Bool.and_eq_true, decide_eq_true_eq] at h; exact hk h
      refine ⟨.stop (.pan 3), ?_, .inr ⟨rfl, i, hlt, hk⟩⟩
      simp only [playlist_must, e1, Bool.not_false, cond_true, Option.bind_some, pbind]
  · have e : decide ((i : Int) < 16) = false := by simp; omega
    obtain rfl : i = 16 := by omega
    right
    refine ⟨.go (tupD d), by unfold playlist_segment_L1 tupS; simp only [e, cond_false]; rfl, .inl ⟨d, rfl, hg, ?_⟩⟩
    rw [hd]
    exact List.map_congr_left fun j hj => by simp at hj; simp [hj]
def hexI (x : List UInt8) : S_api_Digest := S_api_Digest.ofL ⟨0, 0, 0, 0, 0, 0, 0, 0, 0, 0, 0, 0, 0, 0, 0, 0⟩ ((List.range 16).map (val x))
theorem hexI_eq {d : S_api_Digest} {x : List UInt8} (h : d.toL = (List.range 16).map (val x)) : d = hexI x := by
  have h2 : (hexI x).toL = (List.range 16).map (val x) := S_api_Digest.ofL_toL _ _ (by simp)
  have e : d.toL = (hexI x).toL := h.trans h2.symm
  cases d
  simp only [S_api_Digest.toL, List.cons.injEq, and_true] at e
  obtain ⟨e0, e1, e2, e3, e4, e5, e6, e7, e8, e9, e10, e11, e12, e13, e14, e15⟩ := e
  generalize hexI x = q at *
  cases q
  simp only at e0 e1 e2 e3 e4 e5 e6 e7 e8 e9 e10 e11 e12 e13 e14 e15
  subst_vars
  rfl
def allgood (x : List UInt8) : Bool := (List.range 16).all fun j => decide (good x j)
theorem allgood_iff {x : List UInt8} : allgood x = true ↔ ∀ j, j < 16 → good x j := by simp [allgood]
def segP (s : List UInt8) : Option S_api_Segment := match splitP 32 s with
  | [a, b, c, x] => if x.length = 32 ∧ allgood x = true then (numP a).bind fun va => (numP b).bind fun vb => (numP c).bind fun vc => some ⟨0, va, vb, hexI x, vc⟩ else none
  | _ => none
theorem split_mem (c : UInt8) : ∀ (l x : List UInt8), x ∈ splitP c l → x.length ≤ l.length
  | [], x, h => by simp [splitP] at h; subst h; simp
  | b :: r, x, h => by
    unfold splitP at h
    split at h
    · rcases List.mem_cons.1 h with rfl | h
      · simp
      · have := split_mem c r x h; simp; omega
    · cases hs : splitP c r with
      | nil => exact absurd hs (splitP_ne c r)
      | cons y ys =>
        rw [hs] at h
        simp only at h
        rcases List.mem_cons.1 h with rfl | h
        · have := split_mem c r y (by rw [hs]; exact List.mem_cons_self ..); simp; omega
        · have := split_mem c r x (by rw [hs]; exact List.mem_cons_of_mem _ h); simp; omega
theorem segment_eq (s : List UInt8) (hs : s.length ≤ 1000000) (n : Nat) (hn : 16 < n) : playlist_segment n s = some (toPn (segP s)) := by
  have hm := fun x hx => Nat.le_trans (split_mem 32 s x hx) hs
  unfold playlist_segment splitH segP
  rw [need_pos (by omega)]
  simp only [obind, Option.bind_some]
  generalize splitP 32 s = l at hm
  by_cases h4 : l.length = 4
  · match l, h4 with
    | [a, b, c, x], _ =>
      have na := number_eq a (by have := hm a (by simp); omega)
      have nb := number_eq b (by have := hm b (by simp); omega)
      have nc := number_eq c (by have := hm c (by simp); omega)
      have e4 : decide ((([a, b, c, x] : List (List UInt8)).length : Int) = 4) = true := rfl
      simp only [e4, cond_true]
      rw [show (3 : Int) = ((3 : Nat) : Int) from rfl, idx_get (x := x) rfl]
      by_cases hx : x.length = 32
      · have e5 : decide ((x.length : Int) = 32) = true := decide_eq_true (by omega)
        simp only [e5, bindJ_go, playlist_must, Bool.not_true, cond_false, Option.bind_some, pbind]
        rw [show (0 : Int) = ((0 : Nat) : Int) from rfl, idx_get (x := a) rfl, na, show (1 : Int) = ((1 : Nat) : Int) from rfl]
        simp only [Option.bind_some]
        rw [idx_get (x := b) rfl, nb, show (2 : Int) = ((2 : Nat) : Int) from rfl]
        simp only [Option.bind_some]
        rw [idx_get (x := c) rfl, nc]
        simp only [Option.bind_some, hx, true_and]
        obtain ⟨r, hr, h⟩ := seg_loop [a, b, c, x] x rfl hx n hn
        have hr' : iter (playlist_segment_L1 [a, b, c, x]) n (((0 : Nat) : Int), ((0 : Nat) : Int), ((0 : Nat) : Int), ((0 : Nat) : Int), ((0 : Nat) : Int), ((0 : Nat) : Int), ((0 : Nat) : Int), ((0 : Nat) : Int), ((0 : Nat) : Int), ((0 : Nat) : Int), ((0 : Nat) : Int), ((0 : Nat) : Int), ((0 : Nat) : Int), ((0 : Nat) : Int), ((0 : Nat) : Int), ((0 : Nat) : Int), ((0 : Nat) : Int)) = some r := hr
        rw [hr']
        cases numP a with
        | none => simp only [toPn, Option.bind_none, ite_self]
        | some va =>
          cases numP b with
          | none => simp only [toPn, Option.bind_none, Option.bind_some, ite_self]
          | some vb =>
            cases numP c with
            | none => simp only [toPn, Option.bind_none, Option.bind_some, ite_self]
            | some vc =>
              rcases h with ⟨d, rfl, hg, hd⟩ | ⟨rfl, j, hj, hb⟩
              · rw [if_pos (allgood_iff.2 hg), ← hexI_eq hd]
                rfl
              · rw [if_neg (fun h => hb (allgood_iff.1 h j hj))]
                rfl
      · have e5 : decide ((x.length : Int) = 32) = false := decide_eq_false (by omega)
        simp only [e5, bindJ_go, playlist_must, Bool.not_false, cond_true, Option.bind_some, pbind, hx, false_and, if_false]
        rfl
  · have e4 : decide ((l.length : Int) = 4) = false := decide_eq_false (by omega)
    simp only [e4, cond_false, bindJ_go, playlist_must, Bool.not_false, cond_true, Option.bind_some, pbind]
    match l, h4 with
    | [], _ => rfl
    | [_], _ => rfl
    | [_, _], _ => rfl
    | [_, _, _], _ => rfl
    | _ :: _ :: _ :: _ :: _ :: _, _ => rfl
end Go.Proofs.YtbgpojdmdnkeaaaGreatDoor
namespace Go.Proofs.YtbgpojdmdnkeaaaGreatDoor
open Go.Abs
set_option linter.unusedSimpArgs false
set_option linter.unusedVariables false
/-- the segments of the lines from number i on -/
def segsP (first : Int) : Nat → List (List UInt8) → Option (List S_api_Segment)
  | _, [] => some []
  | i, x :: r => (segP x).bind fun y => (segsP first (i + 1) r).map fun l => ⟨IntKind.i64.wrap (first + i), y.Begin, y.Len, y.Body, y.Size⟩ :: l
theorem parse_loop (first : Int) (l : List (List UInt8)) (hl : l.length ≤ 1000000) (hx : ∀ x ∈ l, x.length ≤ 1000000) (n : Nat) (hn : l.length < n) (h16 : 16 < n) :
    iter (playlist_Parse_L1 n first l) n (0, []) = some (match segsP first 0 l with | some r => .go r | none => .stop (⟨0, [], false⟩, 3)) := by
  have key := iter_fold (l := l) (step := playlist_Parse_L1 n first l) (fun i (o : Nat × List S_api_Segment) => ((i : Int), o.2)) (fun o x => match segP x with
      | some y => .go (o.1 + 1, o.2 ++ [⟨IntKind.i64.wrap (first + o.1), y.Begin, y.Len, y.Body, y.Size⟩])
      | none => .stop (.stop (⟨0, [], false⟩, 3))) (fun o => .go o.2) (fun i o => o.1 = i ∧ o.2.length = i) (by
    rintro i ⟨k, o⟩ x ⟨hk, ho⟩ hs
    simp only at hk ho
    subst hk
    obtain ⟨hi, rfl⟩ := List.getElem?_eq_some_iff.1 hs
    have hxl := hx _ (List.getElem_mem hi)
    have e : decide ((k : Int) < (l.length : Int)) = true := by simpa using hi
    unfold playlist_Parse_L1
    simp only [e, cond_true]
    rw [idx_get' hi, segment_eq _ hxl n h16]
    simp only [obind, Option.bind_some]
    cases segP l[k] with
    | none => exact ⟨rfl, fun s' hs' => by cases hs'⟩
    | some y =>
      simp only [toPn, pbind]
      rw [need_pos (by simp; omega), w64 (x := (k : Int) + 1) (by omega) (by omega)]
      exact ⟨rfl, fun s' hs' => by cases hs'; exact ⟨rfl, by simp [ho]⟩⟩) (by
    rintro ⟨k, o⟩ _
    unfold playlist_Parse_L1
    simp) n 0 (0, []) ⟨rfl, rfl⟩ (Nat.zero_le _) (by omega)
  have e : iter (playlist_Parse_L1 n first l) n (0, []) = _ := key
  rw [e, List.drop_zero]
  have gen : ∀ (l : List (List UInt8)) (k : Nat) (o : List S_api_Segment), foldL (R := Lp (List S_api_Segment) (S_api_Playlist × Int)) (fun (o : Nat × List S_api_Segment) x => match segP x with
      | some y => .go (o.1 + 1, o.2 ++ [⟨IntKind.i64.wrap (first + o.1), y.Begin, y.Len, y.Body, y.Size⟩])
      | none => .stop (.stop (⟨0, [], false⟩, 3))) (fun o => .go o.2) (k, o) l = match segsP first k l with | some r => .go (o ++ r) | none => .stop (⟨0, [], false⟩, 3) := by
    intro l
    induction l with
    | nil => intro k o; simp [foldL, segsP]
    | cons x r ih =>
      intro k o
      unfold foldL segsP
      cases segP x with
      | none => rfl
      | some y =>
        simp only [Option.bind_some]
        rw [ih]
        cases segsP first (k + 1) r with
        | none => rfl
        | some q => simp
  rw [gen l 0 []]
  cases segsP first 0 l <;> simp
theorem cut_eq (x : List UInt8) (hx : x.length ≤ 1000000) : strings_CutPrefix_51 x [108, 105, 118, 101, 32] = some (if x.take 5 = [108, 105, 118, 101, 32] then (x.drop 5, true) else (x, false)) := by
  unfold strings_CutPrefix_51 internal_stringslite_CutPrefix_75 internal_stringslite_HasPrefix_88
  have e5 : ((([108, 105, 118, 101, 32] : List UInt8).length : Int)) = 5 := rfl
  simp only [e5]
  by_cases h5 : 5 ≤ x.length
  · have e : decide ((5 : Int) ≤ (x.length : Int)) = true := decide_eq_true (by omega)
    simp only [e, cond_true]
    rw [need_pos (by omega)]
    simp only [bindJ_go, obind, Option.bind_some]
    by_cases hp : x.take 5 = [108, 105, 118, 101, 32]
    · have : x.take ((5 : Int).toNat) = [108, 105, 118, 101, 32] := hp
      simp only [this, hp, decide_true, Bool.not_true, cond_false, if_true]
      rw [need_pos (by omega)]
      rfl
    · have : ¬ x.take ((5 : Int).toNat) = [108, 105, 118, 101, 32] := hp
      simp only [this, hp, decide_false, Bool.not_false, cond_true, if_false]
      rfl
  · have e : decide ((5 : Int) ≤ (x.length : Int)) = false := decide_eq_false (by omega)
    have hp : ¬ x.take 5 = [108, 105, 118, 101, 32] := fun h => by
      have := congrArg List.length h
      simp at this; omega
    simp only [e, cond_false, bindJ_go, obind, Option.bind_some, Bool.not_false, cond_true, hp, if_false]
def endsP (t : List (List UInt8)) : List (List UInt8) × Bool := if t.getLast? = some [100, 111, 110, 101] then (t.dropLast, true) else (t, false)
open Classical in
/-- what Parse returns, where the text is short enough -/
noncomputable def parseP (s : List UInt8) : Option S_api_Playlist :=
  let l := splitP 10 s
  if l.getLast? = some [] then
    match l.dropLast with
    | [] => none
    | h :: t => if h.take 5 = [108, 105, 118, 101, 32] then (numP (h.drop 5)).bind fun first => (segsP first 0 (endsP t).1).bind fun q => if VP ⟨first, q, (endsP t).2⟩ then some ⟨first, q, (endsP t).2⟩ else none else none
  else none
theorem take_len {α : Type} (l : List α) (hl : l.length ≤ 1000000) (h0 : 0 < l.length) : l.take ((IntKind.i64.wrap ((l.length : Int) - 1)).toNat) = l.dropLast := by
  rw [w64 (by omega) (by omega), List.dropLast_eq_take]
  congr 1
  omega
theorem idx_last {α β : Type} {l : List α} (hl : l.length ≤ 1000000) (h0 : l ≠ []) (k : α → Option β) : idx l (IntKind.i64.wrap ((l.length : Int) - 1)) k = k (l.getLast h0) := by
  have := List.length_pos_iff.2 h0
  rw [w64 (by omega) (by omega), show (l.length : Int) - 1 = ((l.length - 1 : Nat) : Int) by omega, idx_get' (by omega), List.getLast_eq_getElem]
end Go.Proofs.YtbgpojdmdnkeaaaGreatDoor
namespace Go.Proofs.YtbgpojdmdnkeaaaGreatDoor
open Go.Abs
set_option linter.unusedSimpArgs false
set_option linter.unusedVariables false
theorem dig_nat : ∀ d : Fin 10, (UInt8.ofNat (48 + d.val)).toNat = 48 + d.val := by decide
theorem dig_nat' {d : Nat} (h : d < 10) : (UInt8.ofNat (48 + d)).toNat = 48 + d := dig_nat ⟨d, h⟩
theorem decF_dig : ∀ (k u : Nat) (b : UInt8), b ∈ decF k u → 48 ≤ b.toNat ∧ b.toNat ≤ 57
  | 0, u, b, h => by simp [decF] at h
  | k + 1, u, b, h => by
    unfold decF at h
    split at h
    · rename_i hu
      rw [List.mem_singleton.1 h]
      have := dig_nat' hu; omega
    · rcases List.mem_append.1 h with h | h
      · exact decF_dig k _ b h
      · rw [List.mem_singleton.1 h]
        have := dig_nat' (show u % 10 < 10 by omega); omega
theorem decF_parse : ∀ (k u : Nat) (r : List UInt8), u < 10 ^ k → 0 < k → u ≤ 1125899906842624 → Lib.parseUint10 0 (decF k u ++ r) = Lib.parseUint10 u r
  | 0, u, r, _, h, _ => by omega
  | k + 1, u, r, h, _, hb => by
    unfold decF
    by_cases hu : u < 10
    · have := dig_nat' hu
      simp only [hu, if_true, List.cons_append, List.nil_append, Lib.parseUint10]
      rw [this, if_pos (by omega), if_neg (by omega), if_neg (by omega)]
      congr 1; omega
    · have := dig_nat' (show u % 10 < 10 by omega)
      have hk : 0 < k := by
        rcases Nat.eq_zero_or_pos k with rfl | h'
        · simp at h; omega
        · exact h'
      simp only [hu, if_false, List.append_assoc, List.cons_append, List.nil_append]
      rw [decF_parse k (u / 10) _ (by rw [Nat.pow_succ] at h; omega) hk (by omega)]
      simp only [Lib.parseUint10]
      rw [this, if_pos (by omega), if_neg (by omega), if_neg (by omega)]
      congr 1; omega
theorem decF_ne (k u : Nat) : decF (k + 1) u ≠ [] := by
  unfold decF
  split
  · simp
  · simp
theorem itoaP_dig {v : Int} (h : 0 ≤ v) (b : UInt8) (hb : b ∈ itoaP v) : 48 ≤ b.toNat ∧ b.toNat ≤ 57 := by
  unfold itoaP at hb
  rw [if_neg (by omega)] at hb
  exact decF_dig _ _ _ hb
theorem numP_itoa {v : Int} (h0 : 0 ≤ v) (h1 : v ≤ 1125899906842624) : numP (itoaP v) = some v := by
  have ha : Lib.atoiAll (itoaP v) = .ok v := by
    have hd := fun b => decF_dig 20 v.toNat b
    have hp := decF_parse 20 v.toNat [] (Nat.lt_of_le_of_lt (show v.toNat ≤ 1125899906842624 by omega) (by decide)) (by omega) (by omega)
    have hne := decF_ne 19 v.toNat
    unfold itoaP
    rw [if_neg (by omega)]
    rw [List.append_nil] at hp
    generalize decF 20 v.toNat = l at hd hp hne
    cases l with
    | nil => exact absurd rfl hne
    | cons c r =>
      have hc := hd c (List.mem_cons_self ..)
      unfold Lib.atoiAll Lib.parseMag
      have a1 : ¬ c.toNat = 43 := by omega
      have a2 : ¬ c.toNat = 45 := by omega
      have a3 : ¬ (9223372036854775808 ≤ v.toNat) := by omega
      have a4 : ((v.toNat : Nat) : Int) = v := by omega
      simp only [a1, a2, or_self, if_false, hne, hp, Lib.parseUint10, not_false_eq_true, true_and, false_and, a3, a4]
  unfold numP
  rw [ha]
  simp
theorem split_app (c : UInt8) : ∀ (x r : List UInt8), c ∉ x → splitP c (x ++ c :: r) = x :: splitP c r
  | [], r, _ => by simp [splitP]
  | b :: x, r, h => by
    have hb : ¬ b = c := fun e => h (by subst e; exact List.mem_cons_self ..)
    have ih := split_app c x r (fun e => h (List.mem_cons_of_mem _ e))
    rw [List.cons_append, splitP, ih]
    simp [hb]
theorem split_one (c : UInt8) : ∀ (x : List UInt8), c ∉ x → splitP c x = [x]
  | [], _ => by simp [splitP]
  | b :: x, h => by
    have hb : ¬ b = c := fun e => h (by subst e; exact List.mem_cons_self ..)
    have ih := split_one c x (fun e => h (List.mem_cons_of_mem _ e))
    rw [splitP, ih]
    simp [hb]
theorem split_back (c : UInt8) : ∀ (s : List UInt8), ((splitP c s).dropLast.flatMap fun x => x ++ [c]) ++ (splitP c s).getLast (splitP_ne c s) = s
  | [] => by simp [splitP]
  | b :: r => by
    have ih := split_back c r
    have hne := splitP_ne c r
    cases hs : splitP c r with
    | nil => exact absurd hs hne
    | cons y ys =>
      simp only [hs] at ih
      by_cases hb : b = c
      · subst hb
        have e : splitP b (b :: r) = [] :: y :: ys := by rw [splitP, hs]; simp
        simp only [e, List.dropLast_cons_cons, List.flatMap_cons, List.nil_append, List.cons_append, List.getLast_cons_cons]
        rw [ih]
      · have e : splitP c (b :: r) = (b :: y) :: ys := by rw [splitP, hs]; simp [hb]
        simp only [e]
        cases ys with
        | nil => simpa using ih
        | cons z zs =>
          simp only [List.dropLast_cons_cons, List.flatMap_cons, List.append_assoc, List.cons_append, List.getLast_cons_cons] at ih ⊢
          rw [ih]
theorem split_lines (c : UInt8) : ∀ (l : List (List UInt8)), (∀ x ∈ l, c ∉ x) → splitP c (l.flatMap fun x => x ++ [c]) = l ++ [[]]
  | [], _ => by simp [splitP]
  | x :: r, h => by
    rw [List.flatMap_cons, List.append_assoc, List.cons_append, List.nil_append, split_app c x _ (h x (List.mem_cons_self ..)), split_lines c r (fun y hy => h y (List.mem_cons_of_mem _ hy))]
    rfl
/-! hexadecimal -/
theorem hexd_idx : ∀ a : Fin 16, idxP digs (hexd a.val) = ((a.val : Nat) : Int) := by decide
theorem hexd_ok : ∀ a : Fin 16, hexd a.val ≠ 10 ∧ hexd a.val ≠ 32 := by decide
theorem idxN_at (c : UInt8) : ∀ (l : List UInt8) (n : Nat), idxN c l = some n → l[n]? = some c
  | [], n, h => by simp [idxN] at h
  | b :: r, n, h => by
    unfold idxN at h
    split at h
    · rename_i hb
      simp at h hb; subst h; subst hb; rfl
    · cases hr : idxN c r with
      | none => rw [hr] at h; simp at h
      | some m => rw [hr] at h; simp at h; subst h; simpa using idxN_at c r m hr
theorem hexd_back {c : UInt8} (h : 0 ≤ idxP digs c) : hexd (idxP digs c).toNat = c := by
  unfold idxP at h ⊢
  cases hi : idxN c digs with
  | none => rw [hi] at h; simp at h
  | some n =>
    have := idxN_at c digs n hi
    simp only [Int.toNat_natCast]
    unfold hexd
    rw [this]; rfl
theorem hexP_at : ∀ (l : List Int) (j : Nat) (h : j < l.length), (hexP l)[2 * j]? = some (hexd (l[j].toNat / 16)) ∧ (hexP l)[2 * j + 1]? = some (hexd (l[j].toNat % 16))
  | x :: r, 0, h => by simp [hexP]
  | x :: r, j + 1, h => by
    have := hexP_at r j (by simpa using h)
    unfold hexP at this ⊢
    rw [List.flatMap_cons, show 2 * (j + 1) = 2 * j + 2 by omega, show 2 * j + 2 + 1 = (2 * j + 1) + 2 by omega]
    simpa using this
theorem hexP_good {d : S_api_Digest} (hd : okDig d) (j : Nat) (hj : j < 16) : good (hexP d.toL) j ∧ val (hexP d.toL) j = d.toL[j]'hj := by
  have h16 : d.toL.length = 16 := rfl
  obtain ⟨a1, a2⟩ := hexP_at d.toL j hj
  have hb := hd _ (List.getElem_mem hj)
  unfold good val chr
  rw [a1, a2]
  simp only [Option.getD_some]
  generalize d.toL[j]'hj = b at hb
  have q1 := hexd_idx ⟨b.toNat / 16, by omega⟩
  have q2 := hexd_idx ⟨b.toNat % 16, by omega⟩
  simp only at q1 q2
  rw [q1, q2]
  omega
theorem hexI_hexP {d : S_api_Digest} (hd : okDig d) : hexI (hexP d.toL) = d := by
  refine (hexI_eq ?_).symm
  apply List.ext_getElem
  · simp; rfl
  · intro j h1 h2
    simp only [List.getElem_map, List.getElem_range]
    exact ((hexP_good hd j (by simpa using h2)).2).symm
theorem hexI_toL (x : List UInt8) : (hexI x).toL = (List.range 16).map (val x) := S_api_Digest.ofL_toL _ _ (by simp)
theorem val_lt {x : List UInt8} {j : Nat} (h : good x j) : 0 ≤ val x j ∧ val x j < 256 := by
  have l1 := idxP_lt (chr x (2 * j)); have l2 := idxP_lt (chr x (2 * j + 1))
  unfold good at h
  unfold val
  omega
theorem okDig_hexI {x : List UInt8} (h : allgood x = true) : okDig (hexI x) := by
  intro b hb
  rw [hexI_toL] at hb
  obtain ⟨j, hj, rfl⟩ := List.mem_map.1 hb
  simp at hj
  exact val_lt (allgood_iff.1 h j hj)
theorem hexP_hexI {x : List UInt8} (hx : x.length = 32) (h : allgood x = true) : hexP (hexI x).toL = x := by
  rw [hexI_toL]
  have hlen : (hexP ((List.range 16).map (val x))).length = 32 := by rw [hexP_len]; simp
  apply List.ext_getElem?
  intro i
  by_cases hi : i < 32
  · have hj : i / 2 < 16 := by omega
    have hg := allgood_iff.1 h (i / 2) hj
    obtain ⟨a1, a2⟩ := hexP_at ((List.range 16).map (val x)) (i / 2) (by simpa using hj)
    simp only [List.getElem_map, List.getElem_range] at a1 a2
    have l2 := idxP_lt (chr x (2 * (i / 2) + 1))
    have hv : (val x (i / 2)).toNat / 16 = (idxP digs (chr x (2 * (i / 2)))).toNat ∧ (val x (i / 2)).toNat % 16 = (idxP digs (chr x (2 * (i / 2) + 1))).toNat := by
      unfold good at hg
      unfold val
      omega
    rw [hv.1, hexd_back hg.1] at a1
    rw [hv.2, hexd_back hg.2] at a2
    have hc : ∀ k, k < 32 → x[k]? = some (chr x k) := fun k hk => by unfold chr; rw [List.getElem?_eq_getElem (by omega)]; rfl
    rcases Nat.mod_two_eq_zero_or_one i with e | e
    · have e' : 2 * (i / 2) = i := by omega
      rw [e'] at a1
      rw [a1, hc i hi]
    · have e' : 2 * (i / 2) + 1 = i := by omega
      rw [e'] at a2
      rw [a2, hc i hi]
  · rw [List.getElem?_eq_none (by omega), List.getElem?_eq_none (by omega)]
/-! lines -/
theorem dig_ne {b : UInt8} (h : 48 ≤ b.toNat ∧ b.toNat ≤ 57) : b ≠ 10 ∧ b ≠ 32 := by
  constructor
  · rintro rfl; simp at h
  · rintro rfl; simp at h
theorem hexP_no (l : List Int) (hl : ∀ b ∈ l, 0 ≤ b ∧ b < 256) (b : UInt8) (h : b ∈ hexP l) : b ≠ 10 ∧ b ≠ 32 := by
  unfold hexP at h
  obtain ⟨a, ha, hb⟩ := List.mem_flatMap.1 h
  have := hl a ha
  simp at hb
  rcases hb with rfl | rfl
  · exact hexd_ok ⟨a.toNat / 16, by omega⟩
  · exact hexd_ok ⟨a.toNat % 16, by omega⟩
theorem segP_line {s : S_api_Segment} (h : okSeg s) (hd : okDig s.Body) : segP (lineP s) = some ⟨0, s.Begin, s.Len, s.Body, s.Size⟩ := by
  unfold okSeg at h
  have e : splitP 32 (lineP s) = [itoaP s.Begin, itoaP s.Len, itoaP s.Size, hexP s.Body.toL] := by
    unfold lineP
    rw [split_app 32 _ _ (fun q => (dig_ne (itoaP_dig (by omega) _ q)).2 rfl), split_app 32 _ _ (fun q => (dig_ne (itoaP_dig (by omega) _ q)).2 rfl), split_app 32 _ _ (fun q => (dig_ne (itoaP_dig (by omega) _ q)).2 rfl),
      split_one 32 _ (fun q => (hexP_no _ hd _ q).2 rfl)]
  unfold segP
  rw [e]
  simp only
  have h32 : (hexP s.Body.toL).length = 32 := by rw [hexP_len]; rfl
  rw [if_pos ⟨h32, allgood_iff.2 fun j hj => (hexP_good hd j hj).1⟩, numP_itoa (by omega) (by omega), numP_itoa (by omega) (by omega), numP_itoa (by omega) (by omega), hexI_hexP hd]
  rfl
theorem numP_back {s : List UInt8} {v : Int} (h : numP s = some v) : itoaP v = s := by
  unfold numP at h
  split at h
  · split at h
    · rename_i hk
      cases h; exact hk
    · cases h
  · cases h
theorem segP_back {x : List UInt8} {y : S_api_Segment} (h : segP x = some y) : lineP y = x ∧ y.Num = 0 ∧ okDig y.Body := by
  have hb := split_back 32 x
  unfold segP at h
  split at h
  · rename_i a b c d hs
    simp only [hs] at hb
    split at h
    · rename_i hk
      cases ha : numP a with
      | none => rw [ha] at h; simp at h
      | some va =>
        cases hb' : numP b with
        | none => rw [ha, hb'] at h; simp at h
        | some vb =>
          cases hc : numP c with
          | none => rw [ha, hb', hc] at h; simp at h
          | some vc =>
            rw [ha, hb', hc] at h
            simp at h
            subst h
            refine ⟨?_, rfl, okDig_hexI hk.2⟩
            unfold lineP
            simp only
            rw [numP_back ha, numP_back hb', numP_back hc, hexP_hexI hk.1 hk.2, ← hb]
            simp
    · cases h
  · cases h
end Go.Proofs.YtbgpojdmdnkeaaaGreatDoor
namespace Go.Proofs.YtbgpojdmdnkeaaaGreatDoor
open Go.Abs
set_option linter.unusedSimpArgs false
set_option linter.unusedVariables false
open Classical in
theorem parse_eq (s : List UInt8) (hs : s.length ≤ 65536) (n : Nat) (hn : 70000 < n) : playlist_Parse n s = some (match parseP s with | some p => (p, 0) | none => (⟨0, [], false⟩, 3)) := by
  have hm := fun x hx => Nat.le_trans (split_mem 10 s x hx) hs
  have hlen := Nat.le_trans (splitP_len 10 s) (Nat.add_le_add_right hs 1)
  have hne := splitP_ne 10 s
  unfold playlist_Parse splitH parseP
  have e0 : decide ((65536 : Int) < (s.length : Int)) = false := decide_eq_false (by omega)
  simp only [e0, cond_false]
  rw [need_pos (by omega)]
  simp only [obind, Option.bind_some]
  generalize splitP 10 s = l at hm hlen hne
  have hpos := List.length_pos_iff.2 hne
  rw [idx_last (by omega) hne]
  simp only [List.getLast?_eq_some_getLast hne, take_len l (by omega) hpos, Option.some.injEq]
  by_cases hl : l.getLast hne = []
  · simp only [hl, decide_true, playlist_must, Bool.not_true, cond_false, Option.bind_some, pbind, if_true]
    rw [need_pos (by rw [w64 (by omega) (by omega)]; omega)]
    have hm' : ∀ x ∈ l.dropLast, x.length ≤ 65536 := fun x hx => hm x (List.dropLast_subset _ hx)
    have hlen' : l.dropLast.length ≤ 65536 := by simp; omega
    generalize l.dropLast = d at hm' hlen'
    cases d with
    | nil => rfl
    | cons h t =>
      have e1 : decide ((0 : Int) < ((h :: t).length : Int)) = true := decide_eq_true (by simp)
      have hh := hm' h (List.mem_cons_self ..)
      simp only [e1, Bool.not_true, cond_false, Option.bind_some, pbind]
      have i0 : ∀ (k : List UInt8 → Option (S_api_Playlist × Int)), idx (h :: t) 0 k = k h := fun k => rfl
      rw [i0, cut_eq h (by omega)]
      by_cases hp : h.take 5 = [108, 105, 118, 101, 32]
      · simp only [hp, if_true, Option.bind_some, Bool.not_true, cond_false, pbind]
        rw [number_eq _ (by simp; omega)]
        simp only [Option.bind_some]
        cases hn : numP (h.drop 5) with
        | none => rfl
        | some first =>
          simp only [toPn, pbind, Option.bind_some]
          rw [need_pos (by simp; omega)]
          have ht : (h :: t).drop ((1 : Int).toNat) = t := rfl
          simp only [ht]
          have key : (bindJ (S := Bool) (R := Lp (List (List UInt8) × Bool) (S_api_Playlist × Int))
              (cond (decide (0 < (t.length : Int))) (idx t (IntKind.i64.wrap ((t.length : Int) - 1)) fun x42 => some (.go (decide (x42 = [100, 111, 110, 101])))) (some (.go false)))
              (fun b36 => cond b36 (need (0 ≤ (0 : Int) ∧ 0 ≤ (IntKind.i64.wrap ((t.length : Int) - 1)) ∧ (IntKind.i64.wrap ((t.length : Int) - 1)) ≤ (t.length : Int)) (some (.go ((t.take (((IntKind.i64.wrap ((t.length : Int) - 1))).toNat)), true)))) (some (.go (t, false))))) = some (.go (endsP t)) := by
            have htl : t.length ≤ 65535 := by simp at hlen'; omega
            unfold endsP
            by_cases h0 : t = []
            · subst h0; rfl
            · have hp0 := List.length_pos_iff.2 h0
              have e2 : decide ((0 : Int) < (t.length : Int)) = true := decide_eq_true (by omega)
              simp only [e2, cond_true]
              rw [idx_last (by omega) h0, List.getLast?_eq_some_getLast h0]
              simp only [Option.some.injEq, bindJ_go]
              by_cases hd : t.getLast h0 = [100, 111, 110, 101]
              · simp only [hd, decide_true, cond_true, if_true]
                rw [need_pos (by rw [w64 (by omega) (by omega)]; omega), take_len t (by omega) hp0]
              · simp only [hd, decide_false, cond_false, if_false]
          rw [key]
          have hE : (endsP t).1.length ≤ 65536 ∧ ∀ x ∈ (endsP t).1, x.length ≤ 65536 := by
            unfold endsP
            split
            · exact ⟨by simp at hlen' ⊢; omega, fun x hx => hm' x (List.mem_cons_of_mem _ (List.dropLast_subset _ hx))⟩
            · exact ⟨by simp at hlen' ⊢; omega, fun x hx => hm' x (List.mem_cons_of_mem _ hx)⟩
          generalize endsP t = q at hE
          obtain ⟨q1, q2⟩ := q
          obtain ⟨hq1, hq2⟩ := hE
          simp only at hq1 hq2
          simp only [bindJ_go]
          rw [parse_loop first q1 (by omega) (fun x hx => by have := hq2 x hx; omega) n (by omega) (by omega)]
          cases segsP first 0 q1 with
          | none => rfl
          | some r =>
            simp only [bindJ_go, Option.bind_some]
            rw [valid_eq _ n (by omega)]
            simp only [Option.bind_some]
            by_cases hv : VP ⟨first, r, q2⟩
            · simp only [hv, decide_true, Bool.not_true, cond_false, Option.bind_some, pbind, if_true]
            · simp only [hv, decide_false, Bool.not_false, cond_true, Option.bind_some, pbind, if_false]
      · simp only [hp, if_false, Option.bind_some, Bool.not_false, cond_true, pbind]
  · simp only [hl, decide_false, playlist_must, Bool.not_false, cond_true, Option.bind_some, pbind, if_false]
theorem num_at {p : S_api_Playlist} (h : VP p) : ∀ (k : Nat) (hk : k < p.L.length), p.L[k].Num = p.First + k
  | 0, hk => by simpa using h.2.2.2.1 hk
  | k + 1, hk => by
    have := num_at h k (by omega)
    have := (h.2.2.2.2.2 k hk).1
    omega
theorem segsP_lines (first : Int) (h0 : 0 ≤ first) (h1 : first ≤ 1099511627776) : ∀ (l : List S_api_Segment) (i : Nat), i + l.length ≤ 1000000 → (∀ k (h : k < l.length), okSeg l[k] ∧ okDig l[k].Body ∧ l[k].Num = first + ((i + k : Nat) : Int)) → segsP first i (l.map lineP) = some l
  | [], i, _, _ => rfl
  | s :: r, i, hl, h => by
    obtain ⟨a, b, c⟩ := h 0 (by simp)
    simp only [List.getElem_cons_zero] at a b c
    rw [List.map_cons, segsP, segP_line a b, segsP_lines first h0 h1 r (i + 1) (by simp at hl; omega) (fun k hk => by
      have := h (k + 1) (by simpa using hk)
      simp only [List.getElem_cons_succ] at this
      rw [show i + 1 + k = i + (k + 1) by omega]
      exact this)]
    simp at hl
    simp only [Option.bind_some, Option.map_some]
    rw [w64 (by omega) (by omega)]
    congr 2
    cases s
    simp at c ⊢
    omega
theorem segsP_back (first : Int) : ∀ (l : List (List UInt8)) (i : Nat) (q : List S_api_Segment), segsP first i l = some q → q.map lineP = l ∧ ∀ y ∈ q, okDig y.Body
  | [], i, q, h => by simp [segsP] at h; subst h; simp
  | x :: r, i, q, h => by
    unfold segsP at h
    cases hx : segP x with
    | none => rw [hx] at h; simp at h
    | some y =>
      cases hr : segsP first (i + 1) r with
      | none => rw [hx, hr] at h; simp at h
      | some q' =>
        rw [hx, hr] at h
        simp at h
        subst h
        obtain ⟨a, b, c⟩ := segP_back hx
        obtain ⟨d, e⟩ := segsP_back first r (i + 1) q' hr
        refine ⟨?_, ?_⟩
        · rw [List.map_cons, d]
          congr 1
        · intro z hz
          rcases List.mem_cons.1 hz with rfl | hz
          · exact c
          · exact e z hz
theorem line_no {s : S_api_Segment} (h : okSeg s) (hd : okDig s.Body) (b : UInt8) (hb : b ∈ lineP s) : b ≠ 10 := by
  unfold okSeg at h
  unfold lineP at hb
  have d1 := fun q => (dig_ne (itoaP_dig (v := s.Begin) (by omega) b q)).1
  have d2 := fun q => (dig_ne (itoaP_dig (v := s.Len) (by omega) b q)).1
  have d3 := fun q => (dig_ne (itoaP_dig (v := s.Size) (by omega) b q)).1
  have d4 := fun q => (hexP_no s.Body.toL hd b q).1
  simp only [List.mem_append, List.mem_cons] at hb
  rcases hb with h | rfl | h | rfl | h | rfl | h
  · exact d1 h
  · decide
  · exact d2 h
  · decide
  · exact d3 h
  · decide
  · exact d4 h
theorem lines_no {p : S_api_Playlist} (hp : VP p) (hd : ∀ s ∈ p.L, okDig s.Body) : ∀ x ∈ linesP p, (10 : UInt8) ∉ x := by
  intro x hx hb
  unfold linesP at hx
  rcases List.mem_cons.1 hx with rfl | hx
  · unfold headP at hb
    rcases List.mem_append.1 hb with h | h
    · revert h; decide
    · exact (dig_ne (itoaP_dig hp.1 _ h)).1 rfl
  · rcases List.mem_append.1 hx with h | h
    · obtain ⟨s, hs, rfl⟩ := List.mem_map.1 h
      obtain ⟨i, hi, rfl⟩ := List.getElem_of_mem hs
      exact line_no (hp.2.2.2.2.1 i hi) (hd _ hs) _ hb rfl
    · split at h
      · simp at h; subst h; revert hb; decide
      · simp at h
theorem line_long (s : S_api_Segment) : 32 < (lineP s).length := by
  unfold lineP
  have h4 := hexP_len s.Body.toL
  have h5 : s.Body.toL.length = 16 := rfl
  simp; omega
theorem parse_text {p : S_api_Playlist} (hp : VP p) (hd : ∀ s ∈ p.L, okDig s.Body) : parseP (textP p) = some p := by
  have hs : splitP 10 (textP p) = linesP p ++ [[]] := split_lines 10 _ (lines_no hp hd)
  unfold parseP
  simp only [hs, List.getLast?_concat, if_true, List.dropLast_concat]
  unfold linesP
  simp only
  have h1 : (headP p).take 5 = [108, 105, 118, 101, 32] := rfl
  have h2 : (headP p).drop 5 = itoaP p.First := rfl
  have hb1 := hp.1
  have hb2 := hp.2.1
  have hL := hp.2.2.1
  rw [if_pos h1, h2, numP_itoa (by omega) (by omega)]
  have he : endsP (p.L.map lineP ++ if p.Done then [[100, 111, 110, 101]] else []) = (p.L.map lineP, p.Done) := by
    unfold endsP
    cases hD : p.Done with
    | true => simp only [if_true, List.getLast?_concat, List.dropLast_concat]
    | false =>
      simp only [Bool.false_eq_true, if_false, List.append_nil]
      rw [if_neg]
      intro h
      obtain ⟨s, hs, e⟩ := List.mem_map.1 (List.mem_of_getLast? h)
      have := line_long s
      rw [e] at this
      simp at this
  simp only [Option.bind_some, he]
  rw [segsP_lines p.First hb1 hb2 p.L 0 (by omega) (fun k hk => ⟨hp.2.2.2.2.1 k hk, hd _ (List.getElem_mem hk), by rw [num_at hp k hk]; simp⟩)]
  have hp' : VP ⟨p.First, p.L, p.Done⟩ := hp
  simp only [Option.bind_some]
  rw [he, if_pos hp']
theorem text_parse {s : List UInt8} {p : S_api_Playlist} (h : parseP s = some p) : VP p ∧ (∀ y ∈ p.L, okDig y.Body) ∧ textP p = s := by
  have hb := split_back 10 s
  unfold parseP at h
  simp only at h
  split at h
  · rename_i hl
    have hne := splitP_ne 10 s
    rw [List.getLast?_eq_some_getLast hne] at hl
    have hl' := Option.some.inj hl
    rw [hl', List.append_nil] at hb
    split at h
    · cases h
    · rename_i hd t he
      rw [he] at hb
      split at h
      · rename_i h5
        cases hn : numP (hd.drop 5) with
        | none => rw [hn] at h; simp at h
        | some first =>
          rw [hn] at h
          simp only [Option.bind_some] at h
          cases hq : segsP first 0 (endsP t).1 with
          | none => rw [hq] at h; simp at h
          | some q =>
            rw [hq] at h
            simp only [Option.bind_some] at h
            split at h
            · rename_i hv
              cases h
              obtain ⟨a, b⟩ := segsP_back first _ 0 q hq
              refine ⟨hv, b, ?_⟩
              unfold textP
              rw [← hb]
              congr 1
              unfold linesP headP
              simp only
              rw [a, numP_back hn, ← h5, List.take_append_drop]
              congr 1
              unfold endsP
              split
              · rename_i hg
                simp only [if_true]
                have h0 : t ≠ [] := fun e => by subst e; simp at hg
                rw [List.getLast?_eq_some_getLast h0] at hg
                rw [← Option.some.inj hg, List.dropLast_concat_getLast]
              · simp
            · cases h
      · cases h
  · cases h
theorem same_refl (p : S_api_Playlist) (hl : p.L.length ≤ 4294967296) (n : Nat) (hn : p.L.length < n) : ref43_Same n p p = some true := by
  unfold ref43_Same
  have e : ((decide (p.First ≠ p.First) || (!(p.Done == p.Done))) || decide ((p.L.length : Int) ≠ (p.L.length : Int))) = false := by simp
  rw [e, cond_false]
  rw [iter_allgo (step := ref43_Same_L1 p p) p.L.length (.go ()) (fun i hi => by
    unfold ref43_Same_L1
    have e : decide ((i : Int) < (p.L.length : Int)) = true := by simpa using hi
    rw [e, cond_true, idx_get' hi, idx_get' hi]
    simp only [decide_true, Bool.and_true, Bool.not_true, cond_false]
    rw [w64 (by omega) (by omega)]; rfl) (by unfold ref43_Same_L1; simp) n hn]
  rfl
theorem textP_len {p : S_api_Playlist} (hp : VP p) : (textP p).length ≤ 65536 := by
  have hL := hp.2.2.1
  have gen : ∀ l : List S_api_Segment, ((l.map lineP).flatMap fun x => x ++ [10]).length ≤ 99 * l.length := by
    intro l
    induction l with
    | nil => simp
    | cons s r ih =>
      have := lineP_len s
      rw [List.map_cons, List.flatMap_cons, List.length_append, List.length_append]
      simp only [List.length_cons, List.length_nil]
      omega
  have := gen p.L
  have h1 := itoaP_len p.First
  unfold textP linesP headP
  rw [List.flatMap_cons, List.flatMap_append]
  simp only [List.length_append]
  have : (((if p.Done then [[100, 111, 110, 101]] else [] : List (List UInt8)).flatMap fun x => x ++ [10])).length ≤ 5 := by
    cases p.Done <;> simp
  simp only [List.length_cons, List.length_nil]
  omega
end Go.Proofs.YtbgpojdmdnkeaaaGreatDoor
namespace Go.Proofs.YtbgpojdmdnkeaaaGreatDoor
open Go.Abs
set_option linter.unusedVariables false
set_option linter.unusedSimpArgs false
set_option maxRecDepth 20000
set_option maxHeartbeats 4000000

def ref43_Right (s_0 : S_api_Segment) : Option (Bool) :=
 some (((((((decide (0 ≤ s_0.Num) && decide (s_0.Num ≤ 1099511627776)) && decide (0 ≤ s_0.Begin)) && decide (s_0.Begin ≤ 1099511627776)) && decide (1 ≤ s_0.Len)) && decide (s_0.Len ≤ 60000)) && decide (0 ≤ s_0.Size)) && decide (s_0.Size ≤ 1099511627776))
theorem ref43_Right_ok (s_0 : S_api_Segment)  {r : Bool} (h : ref43_Right s_0 = some r) :
  Meets Tryz.prog 32 [.agg #[.int .i64 s_0.Num, .int .i64 s_0.Begin, .int .i64 s_0.Len, .int .u8 s_0.Body.a0_, .int .u8 s_0.Body.a1_, .int .u8 s_0.Body.a2_, .int .u8 s_0.Body.a3_, .int .u8 s_0.Body.a4_, .int .u8 s_0.Body.a5_, .int .u8 s_0.Body.a6_, .int .u8 s_0.Body.a7_, .int .u8 s_0.Body.a8_, .int .u8 s_0.Body.a9_, .int .u8 s_0.Body.a10_, .int .u8 s_0.Body.a11_, .int .u8 s_0.Body.a12_, .int .u8 s_0.Body.a13_, .int .u8 s_0.Body.a14_, .int .u8 s_0.Body.a15_, .int .i64 s_0.Size]] [] (fun v G => v = .bool r ∧ G = []) := by
 refine fn_of_run Tryz.func32 rfl Tryz.ntmps32 rfl (fun w0 o0 => ?_)
 refine run_seq ?_
 refine run_region' ?_
 refine ot rfl rfl (t_box rfl) ?_
 rintro _ _ ⟨b1, rfl, rfl⟩
 refine oy rfl rfl (y_assign rfl) ?_
 refine ops_nil ?_
 refine goes_code ?_
 refine run_seq ?_
 refine run_region' ?_
 refine oy rfl rfl (y_fieldAddr_box (sz := 0) Tryz.runUnderlying57 rfl Tryz.sizeOf3 rfl) ?_
 refine oy rfl rfl (y_load_box 0 Tryz.isAgg3 rfl rfl rfl) ?_
 refine oy rfl rfl (y_geq rfl rfl) ?_
 refine oy rfl rfl (y_move rfl) ?_
 refine ops_cut 4 (Bool) (fun σ => [(1, boxP b1 0), (10, .bool σ)]) (fun σ => [box b1 [.int .i64 s_0.Num, .int .i64 s_0.Begin, .int .i64 s_0.Len, .int .u8 s_0.Body.a0_, .int .u8 s_0.Body.a1_, .int .u8 s_0.Body.a2_, .int .u8 s_0.Body.a3_, .int .u8 s_0.Body.a4_, .int .u8 s_0.Body.a5_, .int .u8 s_0.Body.a6_, .int .u8 s_0.Body.a7_, .int .u8 s_0.Body.a8_, .int .u8 s_0.Body.a9_, .int .u8 s_0.Body.a10_, .int .u8 s_0.Body.a11_, .int .u8 s_0.Body.a12_, .int .u8 s_0.Body.a13_, .int .u8 s_0.Body.a14_, .int .u8 s_0.Body.a15_, .int .i64 s_0.Size]]) (fun σ => σ = (decide (0 ≤ s_0.Num) && decide (s_0.Num ≤ 1099511627776))) (fun L2 hL3 => ?_) ?_
 ·refine ops_split 6 (decide (0 ≤ s_0.Num)) rfl (fun hg4 => ?_) (fun hg4 => ?_)
  ·skip
   refine ops_y (wg 3 true 6 rfl rfl rfl rfl) rfl (y_fieldAddr_box (sz := 0) Tryz.runUnderlying57 rfl Tryz.sizeOf3 rfl) ?_
   refine ops_y (wg 3 true 6 rfl rfl rfl rfl) rfl (y_load_box 0 Tryz.isAgg3 rfl rfl rfl) ?_
   refine ops_y (wg 3 true 6 rfl rfl rfl rfl) rfl (y_leq rfl rfl) ?_
   refine oy rfl rfl (y_pick (b := true) rfl rfl) ?_
   refine ops_nil ?_
   exact goes_cut hL3 (decide (s_0.Num ≤ 1099511627776)) [0] (qv2 rfl rfl) (by decide) rfl (by rw [hg4]; simp)
  ·skip
   refine ops_no 3 true 6 rfl rfl rfl rfl rfl ?_
   refine ops_no 3 true 6 rfl rfl rfl rfl rfl ?_
   refine ops_no 3 true 6 rfl rfl rfl rfl rfl ?_
   refine oy rfl rfl (y_pick (b := false) rfl rfl) ?_
   refine ops_nil ?_
   exact goes_cut hL3 false [0] (qv2 rfl rfl) (by decide) rfl (by rw [hg4]; simp)
 rintro _ rfl
 refine oy rfl rfl (y_move rfl) ?_
 refine ops_cut 4 (Bool) (fun σ => [(1, boxP b1 0), (15, .bool σ)]) (fun σ => [box b1 [.int .i64 s_0.Num, .int .i64 s_0.Begin, .int .i64 s_0.Len, .int .u8 s_0.Body.a0_, .int .u8 s_0.Body.a1_, .int .u8 s_0.Body.a2_, .int .u8 s_0.Body.a3_, .int .u8 s_0.Body.a4_, .int .u8 s_0.Body.a5_, .int .u8 s_0.Body.a6_, .int .u8 s_0.Body.a7_, .int .u8 s_0.Body.a8_, .int .u8 s_0.Body.a9_, .int .u8 s_0.Body.a10_, .int .u8 s_0.Body.a11_, .int .u8 s_0.Body.a12_, .int .u8 s_0.Body.a13_, .int .u8 s_0.Body.a14_, .int .u8 s_0.Body.a15_, .int .i64 s_0.Size]]) (fun σ => σ = ((decide (0 ≤ s_0.Num) && decide (s_0.Num ≤ 1099511627776)) && decide (0 ≤ s_0.Begin))) (fun L5 hL6 => ?_) ?_
 ·refine ops_split 11 (decide (0 ≤ s_0.Num) && decide (s_0.Num ≤ 1099511627776)) rfl (fun hg7 => ?_) (fun hg7 => ?_)
  ·skip
   refine ops_y (wg 8 true 11 rfl rfl rfl rfl) rfl (y_fieldAddr_box (sz := 0) Tryz.runUnderlying57 rfl Tryz.sizeOf3 rfl) ?_
   refine ops_y (wg 8 true 11 rfl rfl rfl rfl) rfl (y_load_box 0 Tryz.isAgg3 rfl rfl rfl) ?_
   refine ops_y (wg 8 true 11 rfl rfl rfl rfl) rfl (y_geq rfl rfl) ?_
   refine oy rfl rfl (y_pick (b := true) rfl rfl) ?_
   refine ops_nil ?_
   exact goes_cut hL6 (decide (0 ≤ s_0.Begin)) [0] (qv2 rfl rfl) (by decide) rfl (by rw [hg7]; simp)
  ·skip
   refine ops_no 8 true 11 rfl rfl rfl rfl rfl ?_
   refine ops_no 8 true 11 rfl rfl rfl rfl rfl ?_
   refine ops_no 8 true 11 rfl rfl rfl rfl rfl ?_
   refine oy rfl rfl (y_pick (b := false) rfl rfl) ?_
   refine ops_nil ?_
   exact goes_cut hL6 false [0] (qv2 rfl rfl) (by decide) rfl (by rw [hg7]; simp)
 rintro _ rfl
 refine oy rfl rfl (y_move rfl) ?_
 refine ops_cut 4 (Bool) (fun σ => [(1, boxP b1 0), (20, .bool σ)]) (fun σ => [box b1 [.int .i64 s_0.Num, .int .i64 s_0.Begin, .int .i64 s_0.Len, .int .u8 s_0.Body.a0_, .int .u8 s_0.Body.a1_, .int .u8 s_0.Body.a2_, .int .u8 s_0.Body.a3_, .int .u8 s_0.Body.a4_, .int .u8 s_0.Body.a5_, .int .u8 s_0.Body.a6_, .int .u8 s_0.Body.a7_, .int .u8 s_0.Body.a8_, .int .u8 s_0.Body.a9_, .int .u8 s_0.Body.a10_, .int .u8 s_0.Body.a11_, .int .u8 s_0.Body.a12_, .int .u8 s_0.Body.a13_, .int .u8 s_0.Body.a14_, .int .u8 s_0.Body.a15_, .int .i64 s_0.Size]]) (fun σ => σ = (((decide (0 ≤ s_0.Num) && decide (s_0.Num ≤ 1099511627776)) && decide (0 ≤ s_0.Begin)) && decide (s_0.Begin ≤ 1099511627776))) (fun L8 hL9 => ?_) ?_
 ·refine ops_split 16 ((decide (0 ≤ s_0.Num) && decide (s_0.Num ≤ 1099511627776)) && decide (0 ≤ s_0.Begin)) rfl (fun hg10 => ?_) (fun hg10 => ?_)
  ·skip
   refine ops_y (wg 13 true 16 rfl rfl rfl rfl) rfl (y_fieldAddr_box (sz := 0) Tryz.runUnderlying57 rfl Tryz.sizeOf3 rfl) ?_
   refine ops_y (wg 13 true 16 rfl rfl rfl rfl) rfl (y_load_box 0 Tryz.isAgg3 rfl rfl rfl) ?_
   refine ops_y (wg 13 true 16 rfl rfl rfl rfl) rfl (y_leq rfl rfl) ?_
   refine oy rfl rfl (y_pick (b := true) rfl rfl) ?_
   refine ops_nil ?_
   exact goes_cut hL9 (decide (s_0.Begin ≤ 1099511627776)) [0] (qv2 rfl rfl) (by decide) rfl (by rw [hg10]; simp)
  ·skip
   refine ops_no 13 true 16 rfl rfl rfl rfl rfl ?_
   refine ops_no 13 true 16 rfl rfl rfl rfl rfl ?_
   refine ops_no 13 true 16 rfl rfl rfl rfl rfl ?_
   refine oy rfl rfl (y_pick (b := false) rfl rfl) ?_
   refine ops_nil ?_
   exact goes_cut hL9 false [0] (qv2 rfl rfl) (by decide) rfl (by rw [hg10]; simp)
 rintro _ rfl
 refine oy rfl rfl (y_move rfl) ?_
 refine ops_cut 4 (Bool) (fun σ => [(1, boxP b1 0), (25, .bool σ)]) (fun σ => [box b1 [.int .i64 s_0.Num, .int .i64 s_0.Begin, .int .i64 s_0.Len, .int .u8 s_0.Body.a0_, .int .u8 s_0.Body.a1_, .int .u8 s_0.Body.a2_, .int .u8 s_0.Body.a3_, .int .u8 s_0.Body.a4_, .int .u8 s_0.Body.a5_, .int .u8 s_0.Body.a6_, .int .u8 s_0.Body.a7_, .int .u8 s_0.Body.a8_, .int .u8 s_0.Body.a9_, .int .u8 s_0.Body.a10_, .int .u8 s_0.Body.a11_, .int .u8 s_0.Body.a12_, .int .u8 s_0.Body.a13_, .int .u8 s_0.Body.a14_, .int .u8 s_0.Body.a15_, .int .i64 s_0.Size]]) (fun σ => σ = ((((decide (0 ≤ s_0.Num) && decide (s_0.Num ≤ 1099511627776)) && decide (0 ≤ s_0.Begin)) && decide (s_0.Begin ≤ 1099511627776)) && decide (1 ≤ s_0.Len))) (fun L11 hL12 => ?_) ?_
 ·refine ops_split 21 (((decide (0 ≤ s_0.Num) && decide (s_0.Num ≤ 1099511627776)) && decide (0 ≤ s_0.Begin)) && decide (s_0.Begin ≤ 1099511627776)) rfl (fun hg13 => ?_) (fun hg13 => ?_)
  ·skip
   refine ops_y (wg 18 true 21 rfl rfl rfl rfl) rfl (y_fieldAddr_box (sz := 0) Tryz.runUnderlying57 rfl Tryz.sizeOf3 rfl) ?_
   refine ops_y (wg 18 true 21 rfl rfl rfl rfl) rfl (y_load_box 0 Tryz.isAgg3 rfl rfl rfl) ?_
   refine ops_y (wg 18 true 21 rfl rfl rfl rfl) rfl (y_geq rfl rfl) ?_
   refine oy rfl rfl (y_pick (b := true) rfl rfl) ?_
   refine ops_nil ?_
   exact goes_cut hL12 (decide (1 ≤ s_0.Len)) [0] (qv2 rfl rfl) (by decide) rfl (by rw [hg13]; simp)
  ·skip
   refine ops_no 18 true 21 rfl rfl rfl rfl rfl ?_
   refine ops_no 18 true 21 rfl rfl rfl rfl rfl ?_
   refine ops_no 18 true 21 rfl rfl rfl rfl rfl ?_
   refine oy rfl rfl (y_pick (b := false) rfl rfl) ?_
   refine ops_nil ?_
   exact goes_cut hL12 false [0] (qv2 rfl rfl) (by decide) rfl (by rw [hg13]; simp)
 rintro _ rfl
 refine oy rfl rfl (y_move rfl) ?_
 refine ops_cut 4 (Bool) (fun σ => [(1, boxP b1 0), (30, .bool σ)]) (fun σ => [box b1 [.int .i64 s_0.Num, .int .i64 s_0.Begin, .int .i64 s_0.Len, .int .u8 s_0.Body.a0_, .int .u8 s_0.Body.a1_, .int .u8 s_0.Body.a2_, .int .u8 s_0.Body.a3_, .int .u8 s_0.Body.a4_, .int .u8 s_0.Body.a5_, .int .u8 s_0.Body.a6_, .int .u8 s_0.Body.a7_, .int .u8 s_0.Body.a8_, .int .u8 s_0.Body.a9_, .int .u8 s_0.Body.a10_, .int .u8 s_0.Body.a11_, .int .u8 s_0.Body.a12_, .int .u8 s_0.Body.a13_, .int .u8 s_0.Body.a14_, .int .u8 s_0.Body.a15_, .int .i64 s_0.Size]]) (fun σ => σ = (((((decide (0 ≤ s_0.Num) && decide (s_0.Num ≤ 1099511627776)) && decide (0 ≤ s_0.Begin)) && decide (s_0.Begin ≤ 1099511627776)) && decide (1 ≤ s_0.Len)) && decide (s_0.Len ≤ 60000))) (fun L14 hL15 => ?_) ?_
 ·refine ops_split 26 ((((decide (0 ≤ s_0.Num) && decide (s_0.Num ≤ 1099511627776)) && decide (0 ≤ s_0.Begin)) && decide (s_0.Begin ≤ 1099511627776)) && decide (1 ≤ s_0.Len)) rfl (fun hg16 => ?_) (fun hg16 => ?_)
  ·skip
   refine ops_y (wg 23 true 26 rfl rfl rfl rfl) rfl (y_fieldAddr_box (sz := 0) Tryz.runUnderlying57 rfl Tryz.sizeOf3 rfl) ?_
   refine ops_y (wg 23 true 26 rfl rfl rfl rfl) rfl (y_load_box 0 Tryz.isAgg3 rfl rfl rfl) ?_
   refine ops_y (wg 23 true 26 rfl rfl rfl rfl) rfl (y_leq rfl rfl) ?_
   refine oy rfl rfl (y_pick (b := true) rfl rfl) ?_
   refine ops_nil ?_
   exact goes_cut hL15 (decide (s_0.Len ≤ 60000)) [0] (qv2 rfl rfl) (by decide) rfl (by rw [hg16]; simp)
  ·skip
   refine ops_no 23 true 26 rfl rfl rfl rfl rfl ?_
   refine ops_no 23 true 26 rfl rfl rfl rfl rfl ?_
   refine ops_no 23 true 26 rfl rfl rfl rfl rfl ?_
   refine oy rfl rfl (y_pick (b := false) rfl rfl) ?_
   refine ops_nil ?_
   exact goes_cut hL15 false [0] (qv2 rfl rfl) (by decide) rfl (by rw [hg16]; simp)
 rintro _ rfl
 refine oy rfl rfl (y_move rfl) ?_
 refine ops_cut 4 (Bool) (fun σ => [(1, boxP b1 0), (35, .bool σ)]) (fun σ => [box b1 [.int .i64 s_0.Num, .int .i64 s_0.Begin, .int .i64 s_0.Len, .int .u8 s_0.Body.a0_, .int .u8 s_0.Body.a1_, .int .u8 s_0.Body.a2_, .int .u8 s_0.Body.a3_, .int .u8 s_0.Body.a4_, .int .u8 s_0.Body.a5_, .int .u8 s_0.Body.a6_, .int .u8 s_0.Body.a7_, .int .u8 s_0.Body.a8_, .int .u8 s_0.Body.a9_, .int .u8 s_0.Body.a10_, .int .u8 s_0.Body.a11_, .int .u8 s_0.Body.a12_, .int .u8 s_0.Body.a13_, .int .u8 s_0.Body.a14_, .int .u8 s_0.Body.a15_, .int .i64 s_0.Size]]) (fun σ => σ = ((((((decide (0 ≤ s_0.Num) && decide (s_0.Num ≤ 1099511627776)) && decide (0 ≤ s_0.Begin)) && decide (s_0.Begin ≤ 1099511627776)) && decide (1 ≤ s_0.Len)) && decide (s_0.Len ≤ 60000)) && decide (0 ≤ s_0.Size))) (fun L17 hL18 => ?_) ?_
 ·refine ops_split 31 (((((decide (0 ≤ s_0.Num) && decide (s_0.Num ≤ 1099511627776)) && decide (0 ≤ s_0.Begin)) && decide (s_0.Begin ≤ 1099511627776)) && decide (1 ≤ s_0.Len)) && decide (s_0.Len ≤ 60000)) rfl (fun hg19 => ?_) (fun hg19 => ?_)
  ·skip
   refine ops_y (wg 28 true 31 rfl rfl rfl rfl) rfl (y_fieldAddr_box (sz := 0) Tryz.runUnderlying57 rfl Tryz.sizeOf3 rfl) ?_
   refine ops_y (wg 28 true 31 rfl rfl rfl rfl) rfl (y_load_box 0 Tryz.isAgg3 rfl rfl rfl) ?_
   refine ops_y (wg 28 true 31 rfl rfl rfl rfl) rfl (y_geq rfl rfl) ?_
   refine oy rfl rfl (y_pick (b := true) rfl rfl) ?_
   refine ops_nil ?_
   exact goes_cut hL18 (decide (0 ≤ s_0.Size)) [0] (qv2 rfl rfl) (by decide) rfl (by rw [hg19]; simp)
  ·skip
   refine ops_no 28 true 31 rfl rfl rfl rfl rfl ?_
   refine ops_no 28 true 31 rfl rfl rfl rfl rfl ?_
   refine ops_no 28 true 31 rfl rfl rfl rfl rfl ?_
   refine oy rfl rfl (y_pick (b := false) rfl rfl) ?_
   refine ops_nil ?_
   exact goes_cut hL18 false [0] (qv2 rfl rfl) (by decide) rfl (by rw [hg19]; simp)
 rintro _ rfl
 refine oy rfl rfl (y_move rfl) ?_
 refine ops_cut 4 (Bool) (fun σ => [(40, .bool σ)]) (fun σ => []) (fun σ => σ = (((((((decide (0 ≤ s_0.Num) && decide (s_0.Num ≤ 1099511627776)) && decide (0 ≤ s_0.Begin)) && decide (s_0.Begin ≤ 1099511627776)) && decide (1 ≤ s_0.Len)) && decide (s_0.Len ≤ 60000)) && decide (0 ≤ s_0.Size)) && decide (s_0.Size ≤ 1099511627776))) (fun L20 hL21 => ?_) ?_
 ·refine ops_split 36 ((((((decide (0 ≤ s_0.Num) && decide (s_0.Num ≤ 1099511627776)) && decide (0 ≤ s_0.Begin)) && decide (s_0.Begin ≤ 1099511627776)) && decide (1 ≤ s_0.Len)) && decide (s_0.Len ≤ 60000)) && decide (0 ≤ s_0.Size)) rfl (fun hg22 => ?_) (fun hg22 => ?_)
  ·skip
   refine ops_y (wg 33 true 36 rfl rfl rfl rfl) rfl (y_fieldAddr_box (sz := 0) Tryz.runUnderlying57 rfl Tryz.sizeOf3 rfl) ?_
   refine ops_y (wg 33 true 36 rfl rfl rfl rfl) rfl (y_load_box 0 Tryz.isAgg3 rfl rfl rfl) ?_
   refine ops_y (wg 33 true 36 rfl rfl rfl rfl) rfl (y_leq rfl rfl) ?_
   refine oy rfl rfl (y_pick (b := true) rfl rfl) ?_
   refine ops_nil ?_
   exact goes_cut hL21 (decide (s_0.Size ≤ 1099511627776)) [] (qv1 rfl) (by decide) rfl (by rw [hg22]; simp)
  ·skip
   refine ops_no 33 true 36 rfl rfl rfl rfl rfl ?_
   refine ops_no 33 true 36 rfl rfl rfl rfl rfl ?_
   refine ops_no 33 true 36 rfl rfl rfl rfl rfl ?_
   refine oy rfl rfl (y_pick (b := false) rfl rfl) ?_
   refine ops_nil ?_
   exact goes_cut hL21 false [] (qv1 rfl) (by decide) rfl (by rw [hg22]; simp)
 rintro _ rfl
 refine oy rfl rfl (y_assign rfl) ?_
 refine ops_nil ?_
 refine goes_code ?_
 refine run_ret ?_
 obtain rfl := some_eq h
 refine fin_slots [2] [.bool (((((((decide (0 ≤ s_0.Num) && decide (s_0.Num ≤ 1099511627776)) && decide (0 ≤ s_0.Begin)) && decide (s_0.Begin ≤ 1099511627776)) && decide (1 ≤ s_0.Len)) && decide (s_0.Len ≤ 60000)) && decide (0 ≤ s_0.Size)) && decide (s_0.Size ≤ 1099511627776))] [] [] Tryz.results32 rfl (by decide) rfl ?_
 exact ⟨rfl, rfl⟩

def ref43_Stream_L1 (l_0 : (List S_api_Segment)) : (Int) → Option (Lp (Int) (Lp (Unit) (Bool))) :=
 fun i_5 =>
  cond (decide (i_5 < (l_0.length : Int)))
   (idx l_0 i_5 fun x11 =>
   obind (ref43_Right x11) fun r12 =>
   bindJ (S := Bool)
    (cond (!r12)
     (some (.go true))
     (bindJ (S := Bool)
      (cond (decide (0 < i_5))
       (idx l_0 (IntKind.i64.wrap (i_5 - 1)) fun x26 =>
       some (.go (decide (x11.Num ≠ (IntKind.i64.wrap (x26.Num + 1))) || decide (x11.Begin ≠ (IntKind.i64.wrap (x26.Begin + x26.Len))))))
       (some (.go false)))
     (fun b20 =>
      some (.go b20))))
   (fun b14 =>
    cond b14
     (some (.stop (.stop false)))
     (some (.go (IntKind.i64.wrap (i_5 + 1))))))
   (some (.stop (.go ())))
def ref43_Stream (n : Nat) (l_0 : (List S_api_Segment)) : Option (Bool) :=
 bindJ (S := Unit)
  (iter (ref43_Stream_L1 l_0) n 0)
 (fun _ =>
  some (decide ((l_0.length : Int) ≤ 1000)))
theorem ref43_Stream_ok (n : Nat) (l_0 : (List S_api_Segment)) (l_0v : Value) {r : Bool} (h : ref43_Stream n l_0 = some r) :
  Meets Tryz.prog 35 [l_0v] [ro l_0v 20 (l_0.map S_api_Segment.enc)] (fun v G => v = .bool r ∧ G = []) := by
 refine fn_of_run Tryz.func35 rfl Tryz.ntmps35 rfl (fun w0 o0 => ?_)
 refine run_seq ?_
 refine run_region' ?_
 refine oy rfl rfl (y_assign rfl) ?_
 refine ops_nil ?_
 refine goes_code ?_
 obtain ⟨o1, h, ho2⟩ := bindJ_some h
 refine run_cut ((Unit) × (Unit)) (fun σ => [(0, l_0v)]) (fun σ => [ro l_0v 20 (l_0.map S_api_Segment.enc)]) (fun σ => o1 = .go σ.1) (fun L4 hL3 => ?_) ?_
 ·
  refine run_seq ?_
  refine run_region' ?_
  refine oy rfl rfl (y_assign rfl) ?_
  refine ops_nil ?_
  refine goes_code ?_
  refine run_block ?_
  refine run_iter (step := ref43_Stream_L1 l_0) (n := n) (s0 := 0) h (G := Unit) () (fun σ γ => [(3, .int .i64 σ), (0, l_0v)]) (fun σ γ => [ro l_0v 20 (l_0.map S_api_Segment.enc)]) [0] (qv2 rfl rfl) (by decide) rfl ?_
  rintro i_5 _ o6 h L9 hgo7 hstop8
  change Run _ _ _ (VF.of [(3, .int .i64 i_5), (0, l_0v)]) [ro l_0v 20 (l_0.map S_api_Segment.enc)]
  refine run_seq ?_
  refine run_seq ?_
  refine run_region' ?_
  refine oy rfl rfl (y_move rfl) ?_
  refine oy rfl rfl (y_move rfl) ?_
  refine oy rfl rfl ((y_len 0 rfl Tryz.runUnderlying22 rfl rfl reads_ro).to (v_len S_api_Segment.enc _)) ?_
  refine oy rfl rfl (y_lss rfl rfl) ?_
  refine ops_nil ?_
  refine goes_code ?_
  refine run_cond (decide (i_5 < (l_0.length : Int))) rfl (fun hc10 => ?_) (fun hc10 => ?_)
  ·replace h := cond_t h hc10
   refine run_skip ?_
   refine goes_code ?_
   refine run_seq ?_
   refine run_block ?_
   refine run_seq ?_
   refine run_region' ?_
   refine oy rfl rfl (y_move rfl) ?_
   refine oy rfl rfl (y_move rfl) ?_
   obtain ⟨x11, hzx11, hlx11, hxx11, h⟩ := idx_some h
   refine oy rfl rfl (y_indexAddrI (kd := .i64) (i := i_5) 0 Tryz.runUnderlying22 Tryz.sizeOf57 rfl rfl rfl reads_ro hzx11 (map_lt hlx11)) ?_
   refine oy rfl rfl (y_load_agg (i := i_5.toNat) (c := [.int .i64 x11.Num, .int .i64 x11.Begin, .int .i64 x11.Len, .int .u8 x11.Body.a0_, .int .u8 x11.Body.a1_, .int .u8 x11.Body.a2_, .int .u8 x11.Body.a3_, .int .u8 x11.Body.a4_, .int .u8 x11.Body.a5_, .int .u8 x11.Body.a6_, .int .u8 x11.Body.a7_, .int .u8 x11.Body.a8_, .int .u8 x11.Body.a9_, .int .u8 x11.Body.a10_, .int .u8 x11.Body.a11_, .int .u8 x11.Body.a12_, .int .u8 x11.Body.a13_, .int .u8 x11.Body.a14_, .int .u8 x11.Body.a15_, .int .i64 x11.Size]) 0 Tryz.isAgg57 Tryz.sizeOf57 rfl rfl reads_ro (map_get hxx11)) ?_
   obtain ⟨r12, hr13, h⟩ := obind_some h
   refine ot rfl rfl (t_callx (vs := [.agg #[.int .i64 x11.Num, .int .i64 x11.Begin, .int .i64 x11.Len, .int .u8 x11.Body.a0_, .int .u8 x11.Body.a1_, .int .u8 x11.Body.a2_, .int .u8 x11.Body.a3_, .int .u8 x11.Body.a4_, .int .u8 x11.Body.a5_, .int .u8 x11.Body.a6_, .int .u8 x11.Body.a7_, .int .u8 x11.Body.a8_, .int .u8 x11.Body.a9_, .int .u8 x11.Body.a10_, .int .u8 x11.Body.a11_, .int .u8 x11.Body.a12_, .int .u8 x11.Body.a13_, .int .u8 x11.Body.a14_, .int .u8 x11.Body.a15_, .int .i64 x11.Size]]) (cs := []) [] rfl Tryz.call32 rfl (ref43_Right_ok x11  hr13) showsX_nil rfl (.inl rfl)) ?_
   rintro _ _ ⟨_, ⟨rfl, rfl⟩, rfl⟩
   refine oy rfl rfl (y_assign rfl) ?_
   refine ops_nil ?_
   refine goes_code ?_
   refine run_seq ?_
   refine run_weak [(3, .int .i64 i_5), (0, l_0v), (4, .bool r12)] [0] [ro l_0v 20 (l_0.map S_api_Segment.enc)] (qv3 rfl rfl rfl) (by decide) rfl ?_
   refine run_draw (by kernel_rfl) (by kernel_rfl) ?_
   refine sy rfl rfl (y_move rfl) ?_
   refine sy rfl rfl (y_not rfl) ?_
   refine sy rfl rfl (y_move rfl) ?_
   obtain ⟨o15, h, ho16⟩ := bindJ_some h
   refine still_cut 39 (Bool) (fun σ => [(3, .int .i64 i_5), (0, l_0v), (57, .bool σ)]) (fun σ => [ro l_0v 20 (l_0.map S_api_Segment.enc)]) (fun σ => o15 = .go σ) (fun L17 hL18 => ?_) ?_
   ·refine still_split 18 (!r12) rfl (fun hg19 => ?_) (fun hg19 => ?_)
    ·replace h := cond_t h hg19
     refine still_no 2 false 18 rfl rfl rfl rfl rfl ?_
     refine still_no 2 false 18 rfl rfl rfl rfl rfl ?_
     refine still_no 2 false 18 rfl rfl rfl rfl rfl ?_
     refine still_un 5 true 21 rfl rfl rfl rfl rfl ?_
     refine still_un 5 true 21 rfl rfl rfl rfl rfl ?_
     refine still_un 5 true 21 rfl rfl rfl rfl rfl ?_
     refine still_un 5 true 21 rfl rfl rfl rfl rfl ?_
     refine still_un 5 true 21 rfl rfl rfl rfl rfl ?_
     refine still_un 5 true 21 rfl rfl rfl rfl rfl ?_
     refine still_un 5 true 21 rfl rfl rfl rfl rfl ?_
     refine still_un 5 true 21 rfl rfl rfl rfl rfl ?_
     refine still_un 5 true 21 rfl rfl rfl rfl rfl ?_
     refine still_un 5 true 21 rfl rfl rfl rfl rfl ?_
     refine still_un 5 true 21 rfl rfl rfl rfl rfl ?_
     refine still_un 5 true 21 rfl rfl rfl rfl rfl ?_
     refine still_un 5 true 21 rfl rfl rfl rfl rfl ?_
     refine still_un 5 true 21 rfl rfl rfl rfl rfl ?_
     refine still_un 19 false 35 rfl rfl rfl rfl rfl ?_
     refine still_un 19 false 35 rfl rfl rfl rfl rfl ?_
     refine still_un 19 false 35 rfl rfl rfl rfl rfl ?_
     refine still_un 19 false 35 rfl rfl rfl rfl rfl ?_
     refine still_un 19 false 35 rfl rfl rfl rfl rfl ?_
     refine still_un 19 false 35 rfl rfl rfl rfl rfl ?_
     refine still_un 19 false 35 rfl rfl rfl rfl rfl ?_
     refine still_un 19 false 35 rfl rfl rfl rfl rfl ?_
     refine still_un 19 false 35 rfl rfl rfl rfl rfl ?_
     refine still_un 19 false 35 rfl rfl rfl rfl rfl ?_
     refine still_un 19 false 35 rfl rfl rfl rfl rfl ?_
     refine still_un 19 false 35 rfl rfl rfl rfl rfl ?_
     refine still_un 19 false 35 rfl rfl rfl rfl rfl ?_
     refine still_un 19 false 35 rfl rfl rfl rfl rfl ?_
     refine still_un 19 false 35 rfl rfl rfl rfl rfl ?_
     refine still_un 19 false 35 rfl rfl rfl rfl rfl ?_
     refine still_un 19 false 35 rfl rfl rfl rfl rfl ?_
     refine still_un 19 false 35 rfl rfl rfl rfl rfl ?_
     refine still_un 19 false 35 rfl rfl rfl rfl rfl ?_
     refine still_un 5 true 21 rfl rfl rfl rfl rfl ?_
     refine still_no 2 false 18 rfl rfl rfl rfl rfl ?_
     refine sy rfl rfl (y_pick (b := true) rfl rfl) ?_
     refine still_nil ?_
     obtain rfl := some_eq h
     exact goes_cut hL18 true [0] (qv3 rfl rfl rfl) (by decide) rfl rfl
    ·replace h := cond_f h hg19
     refine still_y (wg 2 false 18 rfl rfl rfl rfl) rfl (y_move rfl) ?_
     refine still_y (wg 2 false 18 rfl rfl rfl rfl) rfl (y_gtr rfl rfl) ?_
     refine still_y (wg 2 false 18 rfl rfl rfl rfl) rfl (y_move rfl) ?_
     obtain ⟨o21, h, ho22⟩ := bindJ_some h
     refine still_cut 35 (Bool) (fun σ => [(3, .int .i64 i_5), (0, l_0v), (18, .bool false), (56, .bool σ)]) (fun σ => [ro l_0v 20 (l_0.map S_api_Segment.enc)]) (fun σ => o21 = .go σ) (fun L23 hL24 => ?_) ?_
     ·refine still_split 21 (decide (0 < i_5)) rfl (fun hg25 => ?_) (fun hg25 => ?_)
      ·replace h := cond_t h hg25
       refine still_y (wg 5 true 21 rfl rfl rfl rfl) rfl (y_move rfl) ?_
       refine still_y (wg 5 true 21 rfl rfl rfl rfl) rfl (y_move rfl) ?_
       refine still_y (wg 5 true 21 rfl rfl rfl rfl) rfl (y_indexAddrI (kd := .i64) (i := i_5) 0 Tryz.runUnderlying22 Tryz.sizeOf57 rfl rfl rfl reads_ro hzx11 (map_lt hlx11)) ?_
       refine still_y (wg 5 true 21 rfl rfl rfl rfl) rfl (y_fieldAddr_elem (sz := 0) Tryz.runUnderlying57 rfl Tryz.sizeOf3 rfl) ?_
       refine still_y (wg 5 true 21 rfl rfl rfl rfl) rfl (y_load_field (i := i_5.toNat) (j := 0) 0 Tryz.isAgg3 rfl rfl reads_ro (map_get hxx11) rfl) ?_
       refine still_y (wg 5 true 21 rfl rfl rfl rfl) rfl (y_move rfl) ?_
       refine still_y (wg 5 true 21 rfl rfl rfl rfl) rfl (y_move rfl) ?_
       refine still_y (wg 5 true 21 rfl rfl rfl rfl) rfl (y_sub rfl rfl) ?_
       obtain ⟨x26, hzx26, hlx26, hxx26, h⟩ := idx_some h
       refine still_y (wg 5 true 21 rfl rfl rfl rfl) rfl (y_indexAddrI (kd := .i64) (i := (IntKind.i64.wrap (i_5 - 1))) 0 Tryz.runUnderlying22 Tryz.sizeOf57 rfl rfl rfl reads_ro hzx26 (map_lt hlx26)) ?_
       refine still_y (wg 5 true 21 rfl rfl rfl rfl) rfl (y_fieldAddr_elem (sz := 0) Tryz.runUnderlying57 rfl Tryz.sizeOf3 rfl) ?_
       refine still_y (wg 5 true 21 rfl rfl rfl rfl) rfl (y_load_field (i := ((IntKind.i64.wrap (i_5 - 1))).toNat) (j := 0) 0 Tryz.isAgg3 rfl rfl reads_ro (map_get hxx26) rfl) ?_
       refine still_y (wg 5 true 21 rfl rfl rfl rfl) rfl (y_add rfl rfl) ?_
       refine still_y (wg 5 true 21 rfl rfl rfl rfl) rfl (y_neq rfl rfl) ?_
       refine still_y (wg 5 true 21 rfl rfl rfl rfl) rfl (y_move rfl) ?_
       refine still_cut 20 (Bool) (fun σ => [(3, .int .i64 i_5), (0, l_0v), (18, .bool false), (21, .bool true), (55, .bool σ)]) (fun σ => [ro l_0v 20 (l_0.map S_api_Segment.enc)]) (fun σ => σ = (decide (x11.Num ≠ (IntKind.i64.wrap (x26.Num + 1))) || decide (x11.Begin ≠ (IntKind.i64.wrap (x26.Begin + x26.Len))))) (fun L27 hL28 => ?_) ?_
       ·refine still_split 35 (decide (x11.Num ≠ (IntKind.i64.wrap (x26.Num + 1)))) rfl (fun hg29 => ?_) (fun hg29 => ?_)
        ·skip
         refine still_no 19 false 35 rfl rfl rfl rfl rfl ?_
         refine still_no 19 false 35 rfl rfl rfl rfl rfl ?_
         refine still_no 19 false 35 rfl rfl rfl rfl rfl ?_
         refine still_no 19 false 35 rfl rfl rfl rfl rfl ?_
         refine still_no 19 false 35 rfl rfl rfl rfl rfl ?_
         refine still_no 19 false 35 rfl rfl rfl rfl rfl ?_
         refine still_no 19 false 35 rfl rfl rfl rfl rfl ?_
         refine still_no 19 false 35 rfl rfl rfl rfl rfl ?_
         refine still_no 19 false 35 rfl rfl rfl rfl rfl ?_
         refine still_no 19 false 35 rfl rfl rfl rfl rfl ?_
         refine still_no 19 false 35 rfl rfl rfl rfl rfl ?_
         refine still_no 19 false 35 rfl rfl rfl rfl rfl ?_
         refine still_no 19 false 35 rfl rfl rfl rfl rfl ?_
         refine still_no 19 false 35 rfl rfl rfl rfl rfl ?_
         refine still_no 19 false 35 rfl rfl rfl rfl rfl ?_
         refine still_no 19 false 35 rfl rfl rfl rfl rfl ?_
         refine still_no 19 false 35 rfl rfl rfl rfl rfl ?_
         refine still_no 19 false 35 rfl rfl rfl rfl rfl ?_
         refine still_no 19 false 35 rfl rfl rfl rfl rfl ?_
         refine still_y (wg 5 true 21 rfl rfl rfl rfl) rfl (y_pick (b := true) rfl rfl) ?_
         refine still_nil ?_
         exact goes_cut hL28 true [0] (qv5 rfl rfl rfl rfl rfl) (by decide) rfl (by rw [hg29]; simp)
        ·skip
         refine still_y (wg 19 false 35 rfl rfl rfl rfl) rfl (y_move rfl) ?_
         refine still_y (wg 19 false 35 rfl rfl rfl rfl) rfl (y_move rfl) ?_
         refine still_y (wg 19 false 35 rfl rfl rfl rfl) rfl (y_indexAddrI (kd := .i64) (i := i_5) 0 Tryz.runUnderlying22 Tryz.sizeOf57 rfl rfl rfl reads_ro hzx11 (map_lt hlx11)) ?_
         refine still_y (wg 19 false 35 rfl rfl rfl rfl) rfl (y_fieldAddr_elem (sz := 0) Tryz.runUnderlying57 rfl Tryz.sizeOf3 rfl) ?_
         refine still_y (wg 19 false 35 rfl rfl rfl rfl) rfl (y_load_field (i := i_5.toNat) (j := 1) 0 Tryz.isAgg3 rfl rfl reads_ro (map_get hxx11) rfl) ?_
         refine still_y (wg 19 false 35 rfl rfl rfl rfl) rfl (y_move rfl) ?_
         refine still_y (wg 19 false 35 rfl rfl rfl rfl) rfl (y_move rfl) ?_
         refine still_y (wg 19 false 35 rfl rfl rfl rfl) rfl (y_sub rfl rfl) ?_
         refine still_y (wg 19 false 35 rfl rfl rfl rfl) rfl (y_indexAddrI (kd := .i64) (i := (IntKind.i64.wrap (i_5 - 1))) 0 Tryz.runUnderlying22 Tryz.sizeOf57 rfl rfl rfl reads_ro hzx26 (map_lt hlx26)) ?_
         refine still_y (wg 19 false 35 rfl rfl rfl rfl) rfl (y_fieldAddr_elem (sz := 0) Tryz.runUnderlying57 rfl Tryz.sizeOf3 rfl) ?_
         refine still_y (wg 19 false 35 rfl rfl rfl rfl) rfl (y_load_field (i := ((IntKind.i64.wrap (i_5 - 1))).toNat) (j := 1) 0 Tryz.isAgg3 rfl rfl reads_ro (map_get hxx26) rfl) ?_
         refine still_y (wg 19 false 35 rfl rfl rfl rfl) rfl (y_move rfl) ?_
         refine still_y (wg 19 false 35 rfl rfl rfl rfl) rfl (y_move rfl) ?_
         refine still_y (wg 19 false 35 rfl rfl rfl rfl) rfl (y_sub rfl rfl) ?_
         refine still_y (wg 19 false 35 rfl rfl rfl rfl) rfl (y_indexAddrI (kd := .i64) (i := (IntKind.i64.wrap (i_5 - 1))) 0 Tryz.runUnderlying22 Tryz.sizeOf57 rfl rfl rfl reads_ro hzx26 (map_lt hlx26)) ?_
         refine still_y (wg 19 false 35 rfl rfl rfl rfl) rfl (y_fieldAddr_elem (sz := 0) Tryz.runUnderlying57 rfl Tryz.sizeOf3 rfl) ?_
         refine still_y (wg 19 false 35 rfl rfl rfl rfl) rfl (y_load_field (i := ((IntKind.i64.wrap (i_5 - 1))).toNat) (j := 2) 0 Tryz.isAgg3 rfl rfl reads_ro (map_get hxx26) rfl) ?_
         refine still_y (wg 19 false 35 rfl rfl rfl rfl) rfl (y_add rfl rfl) ?_
         refine still_y (wg 19 false 35 rfl rfl rfl rfl) rfl (y_neq rfl rfl) ?_
         refine still_y (wg 5 true 21 rfl rfl rfl rfl) rfl (y_pick (b := false) rfl rfl) ?_
         refine still_nil ?_
         exact goes_cut hL28 (decide (x11.Begin ≠ (IntKind.i64.wrap (x26.Begin + x26.Len)))) [0] (qv5 rfl rfl rfl rfl rfl) (by decide) rfl (by rw [hg29]; simp)
       rintro _ rfl
       refine still_y (wg 2 false 18 rfl rfl rfl rfl) rfl (y_pick (b := true) rfl rfl) ?_
       refine still_nil ?_
       obtain rfl := some_eq h
       exact goes_cut hL24 (decide (x11.Num ≠ (IntKind.i64.wrap (x26.Num + 1))) || decide (x11.Begin ≠ (IntKind.i64.wrap (x26.Begin + x26.Len)))) [0] (qv4 rfl rfl rfl rfl) (by decide) rfl rfl
      ·replace h := cond_f h hg25
       refine still_no 5 true 21 rfl rfl rfl rfl rfl ?_
       refine still_no 5 true 21 rfl rfl rfl rfl rfl ?_
       refine still_no 5 true 21 rfl rfl rfl rfl rfl ?_
       refine still_no 5 true 21 rfl rfl rfl rfl rfl ?_
       refine still_no 5 true 21 rfl rfl rfl rfl rfl ?_
       refine still_no 5 true 21 rfl rfl rfl rfl rfl ?_
       refine still_no 5 true 21 rfl rfl rfl rfl rfl ?_
       refine still_no 5 true 21 rfl rfl rfl rfl rfl ?_
       refine still_no 5 true 21 rfl rfl rfl rfl rfl ?_
       refine still_no 5 true 21 rfl rfl rfl rfl rfl ?_
       refine still_no 5 true 21 rfl rfl rfl rfl rfl ?_
       refine still_no 5 true 21 rfl rfl rfl rfl rfl ?_
       refine still_no 5 true 21 rfl rfl rfl rfl rfl ?_
       refine still_no 5 true 21 rfl rfl rfl rfl rfl ?_
       refine still_un 19 false 35 rfl rfl rfl rfl rfl ?_
       refine still_un 19 false 35 rfl rfl rfl rfl rfl ?_
       refine still_un 19 false 35 rfl rfl rfl rfl rfl ?_
       refine still_un 19 false 35 rfl rfl rfl rfl rfl ?_
       refine still_un 19 false 35 rfl rfl rfl rfl rfl ?_
       refine still_un 19 false 35 rfl rfl rfl rfl rfl ?_
       refine still_un 19 false 35 rfl rfl rfl rfl rfl ?_
       refine still_un 19 false 35 rfl rfl rfl rfl rfl ?_
       refine still_un 19 false 35 rfl rfl rfl rfl rfl ?_
       refine still_un 19 false 35 rfl rfl rfl rfl rfl ?_
       refine still_un 19 false 35 rfl rfl rfl rfl rfl ?_
       refine still_un 19 false 35 rfl rfl rfl rfl rfl ?_
       refine still_un 19 false 35 rfl rfl rfl rfl rfl ?_
       refine still_un 19 false 35 rfl rfl rfl rfl rfl ?_
       refine still_un 19 false 35 rfl rfl rfl rfl rfl ?_
       refine still_un 19 false 35 rfl rfl rfl rfl rfl ?_
       refine still_un 19 false 35 rfl rfl rfl rfl rfl ?_
       refine still_un 19 false 35 rfl rfl rfl rfl rfl ?_
       refine still_un 19 false 35 rfl rfl rfl rfl rfl ?_
       refine still_no 5 true 21 rfl rfl rfl rfl rfl ?_
       refine still_y (wg 2 false 18 rfl rfl rfl rfl) rfl (y_pick (b := false) rfl rfl) ?_
       refine still_nil ?_
       obtain rfl := some_eq h
       exact goes_cut hL24 false [0] (qv4 rfl rfl rfl rfl) (by decide) rfl rfl
     rintro b20 hj
     obtain rfl : o21 = _ := hj
     replace h := after_go ho22
     clear ho22
     refine sy rfl rfl (y_pick (b := false) rfl rfl) ?_
     refine still_nil ?_
     obtain rfl := some_eq h
     exact goes_cut hL18 b20 [0] (qv3 rfl rfl rfl) (by decide) rfl rfl
   rintro b14 hj
   obtain rfl : o15 = _ := hj
   replace h := after_go ho16
   clear ho16
   refine still_nil ?_
   refine goes_code ?_
   refine run_cond b14 rfl (fun hc30 => ?_) (fun hc30 => ?_)
   ·replace h := cond_t h hc30
    refine run_seq ?_
    refine run_region' ?_
    refine oy rfl rfl (y_assign rfl) ?_
    refine ops_nil ?_
    refine goes_code ?_
    refine run_ret ?_
    obtain rfl := some_eq h
    obtain rfl := hstop8 _ rfl
    skip
    obtain rfl := after_stop ho2
    refine fin_slots [2] [.bool false] [] [] Tryz.results35 rfl (by decide) rfl ?_
    exact ⟨rfl, rfl⟩
   ·replace h := cond_f h hc30
    refine run_skip ?_
    refine goes_blk ?_
    refine goes_code ?_
    refine run_region' ?_
    refine oy rfl rfl (y_move rfl) ?_
    refine oy rfl rfl (y_add rfl rfl) ?_
    refine oy rfl rfl (y_assign rfl) ?_
    refine ops_nil ?_
    obtain rfl := some_eq h
    exact goes_iter hgo7 (IntKind.i64.wrap (i_5 + 1)) () [0] rfl (qv2 rfl rfl) (by decide) rfl
  ·replace h := cond_f h hc10
   refine run_exit _ rfl ?_
   obtain rfl := some_eq h
   obtain rfl := hstop8 _ rfl
   exact goes_cut hL3 ((), ()) [0] (qv1 rfl) (by decide) rfl rfl
 rintro ⟨_, _⟩ hj
 obtain rfl : o1 = _ := hj
 replace h := after_go ho2
 clear ho2
 change Run _ _ _ (VF.of [(0, l_0v)]) [ro l_0v 20 (l_0.map S_api_Segment.enc)]
 refine run_seq ?_
 refine run_region' ?_
 refine oy rfl rfl (y_move rfl) ?_
 refine oy rfl rfl ((y_len 0 rfl Tryz.runUnderlying22 rfl rfl reads_ro).to (v_len S_api_Segment.enc _)) ?_
 refine oy rfl rfl (y_leq rfl rfl) ?_
 refine oy rfl rfl (y_assign rfl) ?_
 refine ops_nil ?_
 refine goes_code ?_
 refine run_ret ?_
 obtain rfl := some_eq h
 refine fin_slots [2] [.bool (decide ((l_0.length : Int) ≤ 1000))] [] [] Tryz.results35 rfl (by decide) rfl ?_
 exact ⟨rfl, rfl⟩

def ref43_Valid (n : Nat) (p_0 : S_api_Playlist) : Option (Bool) :=
 bindJ (S := Bool)
  (cond ((decide (p_0.First < 0) || decide (1099511627776 < p_0.First)) || decide (100 < (p_0.L.length : Int)))
   (some (.go true))
   (bindJ (S := Bool)
    (cond (decide (0 < (p_0.L.length : Int)))
     (idx p_0.L 0 fun x20 =>
     some (.go (decide (x20.Num ≠ p_0.First))))
     (some (.go false)))
   (fun b14 =>
    some (.go b14))))
 (fun b8 =>
  cond b8
   (some false)
   (obind (ref43_Stream n p_0.L) fun r22 =>
   some r22))
theorem ref43_Valid_ok (n : Nat) (p_0 : S_api_Playlist) (p_0_Lv : Value) {r : Bool} (h : ref43_Valid n p_0 = some r) :
  Meets Tryz.prog 7 [.agg #[.int .i64 p_0.First, p_0_Lv, .bool p_0.Done]] [ro p_0_Lv 20 (p_0.L.map S_api_Segment.enc)] (fun v G => v = .bool r ∧ G = []) := by
 refine fn_of_run Tryz.func7 rfl Tryz.ntmps7 rfl (fun w0 o0 => ?_)
 refine run_seq ?_
 refine run_region' ?_
 refine ot rfl rfl (t_box rfl) ?_
 rintro _ _ ⟨b1, rfl, rfl⟩
 refine oy rfl rfl (y_assign rfl) ?_
 refine ops_nil ?_
 refine goes_code ?_
 refine run_seq ?_
 refine run_seq ?_
 refine run_draw (by kernel_rfl) (by kernel_rfl) ?_
 refine sy rfl rfl (y_fieldAddr_box (sz := 0) Tryz.runUnderlying24 rfl Tryz.sizeOf3 rfl) ?_
 refine sy rfl rfl (y_load_box 1 Tryz.isAgg3 rfl rfl rfl) ?_
 refine sy rfl rfl (y_lss rfl rfl) ?_
 refine sy rfl rfl (y_move rfl) ?_
 refine still_cut 4 (Bool) (fun σ => [(1, boxP b1 0), (10, .bool σ)]) (fun σ => [ro p_0_Lv 20 (p_0.L.map S_api_Segment.enc), box b1 [.int .i64 p_0.First, p_0_Lv, .bool p_0.Done]]) (fun σ => σ = (decide (p_0.First < 0) || decide (1099511627776 < p_0.First))) (fun L2 hL3 => ?_) ?_
 ·refine still_split 6 (decide (p_0.First < 0)) rfl (fun hg4 => ?_) (fun hg4 => ?_)
  ·skip
   refine still_no 3 false 6 rfl rfl rfl rfl rfl ?_
   refine still_no 3 false 6 rfl rfl rfl rfl rfl ?_
   refine still_no 3 false 6 rfl rfl rfl rfl rfl ?_
   refine sy rfl rfl (y_pick (b := true) rfl rfl) ?_
   refine still_nil ?_
   exact goes_cut hL3 true [0, 1] (qv2 rfl rfl) (by decide) rfl (by rw [hg4]; simp)
  ·skip
   refine still_y (wg 3 false 6 rfl rfl rfl rfl) rfl (y_fieldAddr_box (sz := 0) Tryz.runUnderlying24 rfl Tryz.sizeOf3 rfl) ?_
   refine still_y (wg 3 false 6 rfl rfl rfl rfl) rfl (y_load_box 1 Tryz.isAgg3 rfl rfl rfl) ?_
   refine still_y (wg 3 false 6 rfl rfl rfl rfl) rfl (y_gtr rfl rfl) ?_
   refine sy rfl rfl (y_pick (b := false) rfl rfl) ?_
   refine still_nil ?_
   exact goes_cut hL3 (decide (1099511627776 < p_0.First)) [0, 1] (qv2 rfl rfl) (by decide) rfl (by rw [hg4]; simp)
 rintro _ rfl
 refine sy rfl rfl (y_move rfl) ?_
 refine still_cut 5 (Bool) (fun σ => [(1, boxP b1 0), (16, .bool σ)]) (fun σ => [ro p_0_Lv 20 (p_0.L.map S_api_Segment.enc), box b1 [.int .i64 p_0.First, p_0_Lv, .bool p_0.Done]]) (fun σ => σ = ((decide (p_0.First < 0) || decide (1099511627776 < p_0.First)) || decide (100 < (p_0.L.length : Int)))) (fun L5 hL6 => ?_) ?_
 ·refine still_split 11 (decide (p_0.First < 0) || decide (1099511627776 < p_0.First)) rfl (fun hg7 => ?_) (fun hg7 => ?_)
  ·skip
   refine still_no 8 false 11 rfl rfl rfl rfl rfl ?_
   refine still_no 8 false 11 rfl rfl rfl rfl rfl ?_
   refine still_no 8 false 11 rfl rfl rfl rfl rfl ?_
   refine still_no 8 false 11 rfl rfl rfl rfl rfl ?_
   refine sy rfl rfl (y_pick (b := true) rfl rfl) ?_
   refine still_nil ?_
   exact goes_cut hL6 true [0, 1] (qv2 rfl rfl) (by decide) rfl (by rw [hg7]; simp)
  ·skip
   refine still_y (wg 8 false 11 rfl rfl rfl rfl) rfl (y_fieldAddr_box (sz := 0) Tryz.runUnderlying24 rfl Tryz.sizeOf22 rfl) ?_
   refine still_y (wg 8 false 11 rfl rfl rfl rfl) rfl (y_load_box 1 Tryz.isAgg22 rfl rfl rfl) ?_
   refine still_y (wg 8 false 11 rfl rfl rfl rfl) rfl ((y_len 0 rfl Tryz.runUnderlying22 rfl rfl reads_ro).to (v_len S_api_Segment.enc _)) ?_
   refine still_y (wg 8 false 11 rfl rfl rfl rfl) rfl (y_gtr rfl rfl) ?_
   refine sy rfl rfl (y_pick (b := false) rfl rfl) ?_
   refine still_nil ?_
   exact goes_cut hL6 (decide (100 < (p_0.L.length : Int))) [0, 1] (qv2 rfl rfl) (by decide) rfl (by rw [hg7]; simp)
 rintro _ rfl
 refine sy rfl rfl (y_move rfl) ?_
 obtain ⟨o9, h, ho10⟩ := bindJ_some h
 refine still_cut 15 (Bool) (fun σ => [(1, boxP b1 0), (32, .bool σ)]) (fun σ => [ro p_0_Lv 20 (p_0.L.map S_api_Segment.enc), box b1 [.int .i64 p_0.First, p_0_Lv, .bool p_0.Done]]) (fun σ => o9 = .go σ) (fun L11 hL12 => ?_) ?_
 ·refine still_split 17 ((decide (p_0.First < 0) || decide (1099511627776 < p_0.First)) || decide (100 < (p_0.L.length : Int))) rfl (fun hg13 => ?_) (fun hg13 => ?_)
  ·replace h := cond_t h hg13
   refine still_no 14 false 17 rfl rfl rfl rfl rfl ?_
   refine still_no 14 false 17 rfl rfl rfl rfl rfl ?_
   refine still_no 14 false 17 rfl rfl rfl rfl rfl ?_
   refine still_no 14 false 17 rfl rfl rfl rfl rfl ?_
   refine still_no 14 false 17 rfl rfl rfl rfl rfl ?_
   refine still_un 19 true 22 rfl rfl rfl rfl rfl ?_
   refine still_un 19 true 22 rfl rfl rfl rfl rfl ?_
   refine still_un 19 true 22 rfl rfl rfl rfl rfl ?_
   refine still_un 19 true 22 rfl rfl rfl rfl rfl ?_
   refine still_un 19 true 22 rfl rfl rfl rfl rfl ?_
   refine still_un 19 true 22 rfl rfl rfl rfl rfl ?_
   refine still_un 19 true 22 rfl rfl rfl rfl rfl ?_
   refine still_un 19 true 22 rfl rfl rfl rfl rfl ?_
   refine still_no 14 false 17 rfl rfl rfl rfl rfl ?_
   refine sy rfl rfl (y_pick (b := true) rfl rfl) ?_
   refine still_nil ?_
   obtain rfl := some_eq h
   exact goes_cut hL12 true [0, 1] (qv2 rfl rfl) (by decide) rfl rfl
  ·replace h := cond_f h hg13
   refine still_y (wg 14 false 17 rfl rfl rfl rfl) rfl (y_fieldAddr_box (sz := 0) Tryz.runUnderlying24 rfl Tryz.sizeOf22 rfl) ?_
   refine still_y (wg 14 false 17 rfl rfl rfl rfl) rfl (y_load_box 1 Tryz.isAgg22 rfl rfl rfl) ?_
   refine still_y (wg 14 false 17 rfl rfl rfl rfl) rfl ((y_len 0 rfl Tryz.runUnderlying22 rfl rfl reads_ro).to (v_len S_api_Segment.enc _)) ?_
   refine still_y (wg 14 false 17 rfl rfl rfl rfl) rfl (y_gtr rfl rfl) ?_
   refine still_y (wg 14 false 17 rfl rfl rfl rfl) rfl (y_move rfl) ?_
   obtain ⟨o15, h, ho16⟩ := bindJ_some h
   refine still_cut 9 (Bool) (fun σ => [(1, boxP b1 0), (17, .bool false), (31, .bool σ)]) (fun σ => [ro p_0_Lv 20 (p_0.L.map S_api_Segment.enc), box b1 [.int .i64 p_0.First, p_0_Lv, .bool p_0.Done]]) (fun σ => o15 = .go σ) (fun L17 hL18 => ?_) ?_
   ·refine still_split 22 (decide (0 < (p_0.L.length : Int))) rfl (fun hg19 => ?_) (fun hg19 => ?_)
    ·replace h := cond_t h hg19
     refine still_y (wg 19 true 22 rfl rfl rfl rfl) rfl (y_fieldAddr_box (sz := 0) Tryz.runUnderlying24 rfl Tryz.sizeOf22 rfl) ?_
     refine still_y (wg 19 true 22 rfl rfl rfl rfl) rfl (y_load_box 1 Tryz.isAgg22 rfl rfl rfl) ?_
     obtain ⟨x20, hzx20, hlx20, hxx20, h⟩ := idx_some h
     refine still_y (wg 19 true 22 rfl rfl rfl rfl) rfl (y_indexAddrI (kd := .i64) (i := 0) 0 Tryz.runUnderlying22 Tryz.sizeOf57 rfl rfl rfl reads_ro hzx20 (map_lt hlx20)) ?_
     refine still_y (wg 19 true 22 rfl rfl rfl rfl) rfl (y_fieldAddr_elem (sz := 0) Tryz.runUnderlying57 rfl Tryz.sizeOf3 rfl) ?_
     refine still_y (wg 19 true 22 rfl rfl rfl rfl) rfl (y_load_field (i := (0 : Int).toNat) (j := 0) 0 Tryz.isAgg3 rfl rfl reads_ro (map_get hxx20) rfl) ?_
     refine still_y (wg 19 true 22 rfl rfl rfl rfl) rfl (y_fieldAddr_box (sz := 0) Tryz.runUnderlying24 rfl Tryz.sizeOf3 rfl) ?_
     refine still_y (wg 19 true 22 rfl rfl rfl rfl) rfl (y_load_box 1 Tryz.isAgg3 rfl rfl rfl) ?_
     refine still_y (wg 19 true 22 rfl rfl rfl rfl) rfl (y_neq rfl rfl) ?_
     refine still_y (wg 14 false 17 rfl rfl rfl rfl) rfl (y_pick (b := true) rfl rfl) ?_
     refine still_nil ?_
     obtain rfl := some_eq h
     exact goes_cut hL18 (decide (x20.Num ≠ p_0.First)) [0, 1] (qv3 rfl rfl rfl) (by decide) rfl rfl
    ·replace h := cond_f h hg19
     refine still_no 19 true 22 rfl rfl rfl rfl rfl ?_
     refine still_no 19 true 22 rfl rfl rfl rfl rfl ?_
     refine still_no 19 true 22 rfl rfl rfl rfl rfl ?_
     refine still_no 19 true 22 rfl rfl rfl rfl rfl ?_
     refine still_no 19 true 22 rfl rfl rfl rfl rfl ?_
     refine still_no 19 true 22 rfl rfl rfl rfl rfl ?_
     refine still_no 19 true 22 rfl rfl rfl rfl rfl ?_
     refine still_no 19 true 22 rfl rfl rfl rfl rfl ?_
     refine still_y (wg 14 false 17 rfl rfl rfl rfl) rfl (y_pick (b := false) rfl rfl) ?_
     refine still_nil ?_
     obtain rfl := some_eq h
     exact goes_cut hL18 false [0, 1] (qv3 rfl rfl rfl) (by decide) rfl rfl
   rintro b14 hj
   obtain rfl : o15 = _ := hj
   replace h := after_go ho16
   clear ho16
   refine sy rfl rfl (y_pick (b := false) rfl rfl) ?_
   refine still_nil ?_
   obtain rfl := some_eq h
   exact goes_cut hL12 b14 [0, 1] (qv2 rfl rfl) (by decide) rfl rfl
 rintro b8 hj
 obtain rfl : o9 = _ := hj
 replace h := after_go ho10
 clear ho10
 refine still_nil ?_
 refine goes_code ?_
 refine run_cond b8 rfl (fun hc21 => ?_) (fun hc21 => ?_)
 ·replace h := cond_t h hc21
  refine run_seq ?_
  refine run_region' ?_
  refine oy rfl rfl (y_assign rfl) ?_
  refine ops_nil ?_
  refine goes_code ?_
  refine run_ret ?_
  obtain rfl := some_eq h
  refine fin_slots [2] [.bool false] [] [] Tryz.results7 rfl (by decide) rfl ?_
  exact ⟨rfl, rfl⟩
 ·replace h := cond_f h hc21
  refine run_skip ?_
  refine goes_code ?_
  refine run_seq ?_
  refine run_region' ?_
  refine oy rfl rfl (y_fieldAddr_box (sz := 0) Tryz.runUnderlying24 rfl Tryz.sizeOf22 rfl) ?_
  refine oy rfl rfl (y_load_box 1 Tryz.isAgg22 rfl rfl rfl) ?_
  obtain ⟨r22, hr23, h⟩ := obind_some h
  refine ot rfl rfl (t_callx (vs := [p_0_Lv]) (cs := []) [(0, 0)] rfl Tryz.call35 rfl (ref43_Stream_ok n p_0.L p_0_Lv hr23) (showsX_view 0 rfl views_ro showsX_nil) rfl (.inl rfl)) ?_
  rintro _ _ ⟨_, ⟨rfl, rfl⟩, rfl⟩
  refine oy rfl rfl (y_assign rfl) ?_
  refine ops_nil ?_
  refine goes_code ?_
  refine run_ret ?_
  obtain rfl := some_eq h
  refine fin_slots [2] [.bool r22] [] [] Tryz.results7 rfl (by decide) rfl ?_
  exact ⟨rfl, rfl⟩

end Go.Proofs.YtbgpojdmdnkeaaaGreatDoor
namespace Go.Proofs.YtbgpojdmdnkeaaaGreatDoor
open Go.Abs
set_option linter.unusedSimpArgs false
set_option linter.unusedVariables false
theorem rright_eq (s : S_api_Segment) : ref43_Right s = some (decide (okSeg s)) := by
  unfold ref43_Right
  congr 1
  rw [Bool.eq_iff_iff]
  simp only [Bool.and_eq_true, decide_eq_true_eq]
  unfold okSeg
  omega
theorem rstream_loop (l : List S_api_Segment) (hl : l.length ≤ 4294967296) (n : Nat) (hn : l.length < n) :
    ∃ r, iter (ref43_Stream_L1 l) n 0 = some r ∧ ((r = .go () ∧ Strm l) ∨ (r = .stop false ∧ ¬ Strm l)) := by
  refine iter_inv (step := ref43_Stream_L1 l) (fun s : Int => ∃ i : Nat, s = i ∧ i ≤ l.length ∧ (∀ j (h : j < l.length), j < i → okSeg l[j]) ∧ ∀ j (h : j + 1 < l.length), j + 1 < i → joins l[j] l[j + 1]) (fun s => l.length - s.toNat) _ ?_ n 0 ⟨0, rfl, Nat.zero_le _, fun j h hj => by omega, fun j h hj => by omega⟩ (by simpa using hn)
  rintro s ⟨i, rfl, hi, hok, hj⟩
  unfold ref43_Stream_L1
  by_cases hlt : i < l.length
  · have e : decide ((i : Int) < (l.length : Int)) = true := by simpa using hlt
    simp only [e, cond_true]
    rw [idx_get' hlt, rright_eq]
    simp only [obind, Option.bind_some]
    by_cases hk : okSeg l[i]
    · simp only [hk, decide_true, Bool.not_true, cond_false]
      by_cases h0 : i = 0
      · subst h0
        left
        refine ⟨((1 : Nat) : Int), by simp [w64], ⟨1, rfl, by omega, fun j h hj' => ?_, fun j h hj' => by omega⟩, by simp; omega⟩
        obtain rfl : j = 0 := by omega
        exact hk
      · have e1 : decide (0 < (i : Int)) = true := by simp; omega
        simp only [e1, cond_true]
        have hp : i - 1 < l.length := by omega
        rw [w64 (x := (i : Int) - 1) (by omega) (by omega), show (i : Int) - 1 = ((i - 1 : Nat) : Int) by omega, idx_get' hp]
        have hkp := hok (i - 1) hp (by omega)
        have hkp' := hkp
        unfold okSeg at hkp'
        rw [w64 (x := l[i - 1].Num + 1) (by omega) (by omega), w64 (x := l[i - 1].Begin + l[i - 1].Len) (by omega) (by omega)]
        simp only [bindJ_go]
        by_cases hjn : joins l[i - 1] l[i]
        · left
          obtain ⟨j1, j2⟩ := hjn
          refine ⟨((i + 1 : Nat) : Int), ?_, ⟨i + 1, rfl, by omega, fun j h hj' => ?_, fun j h hj' => ?_⟩, by simp; omega⟩
          · simp only [j1, j2, ne_eq, not_true_eq_false, decide_false, cond_false, Bool.or_self]
            rw [w64 (x := (i : Int) + 1) (by omega) (by omega)]; rfl
          · by_cases e : j = i
            · subst e; exact hk
            · exact hok j h (by omega)
          · by_cases e : j + 1 = i
            · subst e; exact ⟨j1, j2⟩
            · exact hj j h (by omega)
        · right
          refine ⟨.stop false, ?_, .inr ⟨rfl, fun hS => hjn ?_⟩⟩
          · have : (decide (l[i].Num ≠ l[i - 1].Num + 1) || decide (l[i].Begin ≠ l[i - 1].Begin + l[i - 1].Len)) = true := by
              simp only [Bool.or_eq_true, decide_eq_true_eq]
              by_cases h1 : l[i].Num = l[i - 1].Num + 1
              · exact .inr fun h2 => hjn ⟨h1, h2⟩
              · exact .inl h1
            rw [this, cond_true]
          · have := hS.2 (i - 1) (by omega)
            simpa [show i - 1 + 1 = i by omega] using this
    · right
      refine ⟨.stop false, by simp [hk], .inr ⟨rfl, fun hS => hk (hS.1 i hlt)⟩⟩
  · have e : decide ((i : Int) < (l.length : Int)) = false := by simp; omega
    right
    exact ⟨.go (), by simp only [e, cond_false], .inl ⟨rfl, fun j h => hok j h (by omega), fun j h => hj j h (by omega)⟩⟩
open Classical in
theorem rstream_eq (l : List S_api_Segment) (hl : l.length ≤ 4294967296) (n : Nat) (hn : l.length < n) : ref43_Stream n l = some (decide (Strm l ∧ l.length ≤ 1000)) := by
  unfold ref43_Stream
  obtain ⟨r, e, h⟩ := rstream_loop l hl n hn
  rw [e]
  rcases h with ⟨rfl, h⟩ | ⟨rfl, h⟩
  · have e1 : ((l.length : Int) ≤ 1000) ↔ (Strm l ∧ l.length ≤ 1000) := ⟨fun q => ⟨h, by omega⟩, fun q => by have := q.2; omega⟩
    simp only [bindJ_go, e1]
  · have e1 : ¬ (Strm l ∧ l.length ≤ 1000) := fun q => h q.1
    simp only [bindJ_stop, e1, decide_false]
open Classical in
theorem rvalid_eq (p : S_api_Playlist) (n : Nat) (hn : 101 < n) : ref43_Valid n p = some (decide (VP p)) := by
  unfold ref43_Valid
  by_cases h1 : 0 ≤ p.First ∧ p.First ≤ 1099511627776 ∧ p.L.length ≤ 100
  · obtain ⟨a1, a2, a3⟩ := h1
    have e : ((decide (p.First < 0) || decide (1099511627776 < p.First)) || decide (100 < (p.L.length : Int))) = false := by rw [Bool.eq_false_iff]; intro h; simp only [Bool.or_eq_true, decide_eq_true_eq] at h; omega
    rw [e]
    simp only [cond_false]
    have hS : (Strm p.L ∧ p.L.length ≤ 1000) ↔ Strm p.L := ⟨fun q => q.1, fun q => ⟨q, by omega⟩⟩
    by_cases h0 : p.L.length = 0
    · rw [decide_eq_false (show ¬ (0 : Int) < (p.L.length : Int) by omega)]
      have hV : VP p ↔ Strm p.L := ⟨fun h => h.2.2.2.2, fun h => ⟨a1, a2, a3, fun h' => absurd h' (by omega), h⟩⟩
      simp only [cond_false, bindJ_go]
      rw [rstream_eq p.L (by omega) n (by omega)]
      simp only [obind, Option.bind_some, hS, hV]
    · have hp : 0 < p.L.length := by omega
      rw [decide_eq_true (show (0 : Int) < (p.L.length : Int) by omega)]
      simp only [cond_true]
      rw [show (0 : Int) = ((0 : Nat) : Int) from rfl, idx_get' hp]
      by_cases hf : p.L[0].Num = p.First
      · have hV : VP p ↔ Strm p.L := ⟨fun h => h.2.2.2.2, fun h => ⟨a1, a2, a3, fun h' => hf, h⟩⟩
        simp only [hf, ne_eq, not_true_eq_false, decide_false, bindJ_go, cond_false]
        rw [rstream_eq p.L (by omega) n (by omega)]
        simp only [obind, Option.bind_some, hS, hV]
      · have hV : ¬ VP p := fun h => hf (h.2.2.2.1 hp)
        simp only [ne_eq, hf, not_false_eq_true, decide_true, bindJ_go, cond_true, hV, decide_false]
  · have e : ((decide (p.First < 0) || decide (1099511627776 < p.First)) || decide (100 < (p.L.length : Int))) = true := by
      simp only [Bool.or_eq_true, decide_eq_true_eq]; omega
    have hV : ¬ VP p := fun h => h1 ⟨h.1, h.2.1, h.2.2.1⟩
    rw [e]
    simp only [cond_true, bindJ_go, hV, decide_false]
end Go.Proofs.YtbgpojdmdnkeaaaGreatDoor
