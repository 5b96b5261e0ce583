/-
  Texts that stand side by side: AbsPlain, Pa, Pb, Pc, Pd, Pe, W4, Pf, AbsEnd, AbsEnd2, AbsEnd3, AbsEnd4, AbsEnd5, AbsLaid, Opn, P4, LaidD.
-/
import Derived.Test.YtbgpojdmdnkeaaaDoorM1
import Derived.Test.YtbgpojdmdnkeaaaDoorFe
import Derived.Test.YtbgpojdmdnkeaaaDoorM0
import Derived.WalkKit
import Derived.ProofKit
import Derived.OpenShut
import Derived.ShutString
import Derived.ChangeOld
import Derived.Below
import Derived.SliceStrings
import Derived.ChangeArms
import Derived.Test.YtbgpojdmdnkeaaaDoorM2
import Derived.LaidHandle
import Derived.Deep.DeepHandedRow
import Derived.Test.YtbgpojdmdnkeaaaDoorRows
import Derived.Test.YtbgpojdmdnkeaaaDoorChecked
namespace Go.Abs
@[simp] theorem bindJ_go {S R : Type} (s : S) (k : S → Option R) : bindJ (some (.go s)) k = k s := rfl
@[simp] theorem bindJ_stop {S R : Type} (r : R) (k : S → Option R) : bindJ (some (.stop r)) k = some r := rfl
@[simp] theorem bindJ_none {S R : Type} (k : S → Option R) : bindJ (none : Option (Lp S R)) k = none := rfl
theorem need_pos {α : Type} {p : Prop} [Decidable p] (h : p) (x : Option α) : need p x = x := by simp [need, h]
theorem idx_get {α β : Type} {l : List α} {i : Nat} {x : α} (h : l[i]? = some x) (k : α → Option β) : idx l (i : Int) k = k x := by simp [idx, h]
theorem idx_get' {α β : Type} {l : List α} {i : Nat} (h : i < l.length) (k : α → Option β) : idx l (i : Int) k = k l[i] := idx_get (List.getElem?_eq_getElem h) k
theorem iter_go {S R : Type} {step : S → Option (Lp S R)} {n : Nat} {s s' : S} (h : step s = some (.go s')) : iter step (n + 1) s = iter step n s' := by simp [iter, h]
theorem iter_stop {S R : Type} {step : S → Option (Lp S R)} {n : Nat} {s : S} {r : R} (h : step s = some (.stop r)) : iter step (n + 1) s = some r := by simp [iter, h]
/-- a loop by an invariant and a measure -/
theorem iter_inv {S R : Type} {step : S → Option (Lp S R)} (inv : S → Prop) (μ : S → Nat) (post : R → Prop)
    (h : ∀ s, inv s → (∃ s', step s = some (.go s') ∧ inv s' ∧ μ s' < μ s) ∨ (∃ r, step s = some (.stop r) ∧ post r)) :
    ∀ (n : Nat) (s : S), inv s → μ s < n → ∃ r, iter step n s = some r ∧ post r
  | 0, s, _, hm => by omega
  | n + 1, s, hi, hm => by
    rcases h s hi with ⟨s', h1, h2, h3⟩ | ⟨r, h1, h2⟩
    · obtain ⟨r, h4, h5⟩ := iter_inv inv μ post h n s' h2 (by omega)
      exact ⟨r, by rw [iter_go h1, h4], h5⟩
    · exact ⟨r, iter_stop h1, h2⟩
theorem w64 {x : Int} (h1 : -9223372036854775808 ≤ x) (h2 : x ≤ 9223372036854775807) : IntKind.i64.wrap x = x := wrap_i64 h1 h2
end Go.Abs
namespace Go.Abs
/-- a walk along a list that may stop -/
def foldL {α S R : Type} (f : S → α → Lp S R) (fin : S → R) : S → List α → R
  | s, [] => fin s
  | s, x :: r => match f s x with
    | .go s' => foldL f fin s' r
    | .stop q => q
def Lp.mapS {S T R : Type} (g : S → T) : Lp S R → Lp T R
  | .go s => .go (g s)
  | .stop r => .stop r
@[simp] theorem mapS_go {S T R : Type} (g : S → T) (s : S) : (Lp.go s : Lp S R).mapS g = .go (g s) := rfl
@[simp] theorem mapS_stop {S T R : Type} (g : S → T) (r : R) : (Lp.stop r : Lp S R).mapS g = .stop r := rfl
/-- a loop that counts along a list -/
theorem iter_fold {α S T R : Type} {step : T → Option (Lp T R)} {l : List α} (mk : Nat → S → T) (f : S → α → Lp S R) (fin : S → R) (inv : Nat → S → Prop)
    (hgo : ∀ i s x, inv i s → l[i]? = some x → step (mk i s) = some ((f s x).mapS (mk (i + 1))) ∧ ∀ s', f s x = .go s' → inv (i + 1) s')
    (hend : ∀ s, inv l.length s → step (mk l.length s) = some (.stop (fin s))) :
    ∀ (n i : Nat) (s : S), inv i s → i ≤ l.length → l.length - i < n → iter step n (mk i s) = some (foldL f fin s (l.drop i))
  | 0, i, s, _, _, h => by omega
  | n + 1, i, s, hi, hle, h => by
    by_cases e : i = l.length
    · subst e
      rw [iter_stop (hend s hi), List.drop_length]; rfl
    · have hlt : i < l.length := by omega
      obtain ⟨h1, h2⟩ := hgo i s _ hi (List.getElem?_eq_getElem hlt)
      rw [List.drop_eq_getElem_cons hlt]
      cases hf : f s l[i] with
      | go s' =>
        rw [hf] at h1
        rw [iter_go h1, iter_fold mk f fin inv hgo hend n (i + 1) s' (h2 s' hf) (by omega) (by omega)]
        simp [foldL, hf]
      | stop q =>
        rw [hf] at h1
        rw [iter_stop h1]
        simp [foldL, hf]
theorem foldL_go {α S R : Type} {f : S → α → Lp S R} {fin : S → R} (g : S → α → S) (h : ∀ s x, f s x = .go (g s x)) : ∀ (l : List α) (s : S), foldL f fin s l = fin (l.foldl g s)
  | [], s => rfl
  | x :: r, s => by simp only [foldL, h, List.foldl_cons]; exact foldL_go g h r _
end Go.Abs
namespace Go.Abs
theorem foldL_gom {α S R : Type} {f : S → α → Lp S R} {fin : S → R} (g : S → α → S) : ∀ (l : List α) (s : S), (∀ s x, x ∈ l → f s x = .go (g s x)) → foldL f fin s l = fin (l.foldl g s)
  | [], s, _ => rfl
  | x :: r, s, h => by
    simp only [foldL, h s x (List.mem_cons_self ..), List.foldl_cons]
    exact foldL_gom g r _ (fun s y hy => h s y (List.mem_cons_of_mem _ hy))
/-- a loop that counts up to N -/
theorem iter_range {S T R : Type} {step : T → Option (Lp T R)} (N : Nat) (mk : Nat → S → T) (f : S → Nat → Lp S R) (fin : S → R) (inv : Nat → S → Prop)
    (hgo : ∀ i s, inv i s → i < N → step (mk i s) = some ((f s i).mapS (mk (i + 1))) ∧ ∀ s', f s i = .go s' → inv (i + 1) s')
    (hend : ∀ s, inv N s → step (mk N s) = some (.stop (fin s))) (n : Nat) (s : S) (h0 : inv 0 s) (hn : N < n) : iter step n (mk 0 s) = some (foldL f fin s (List.range N)) := by
  have := iter_fold (l := List.range N) mk f fin inv (fun i s x hi hx => by
    have hlt := (List.getElem?_eq_some_iff.1 hx).1
    simp at hlt
    have : x = i := by simp [hlt] at hx; exact hx.symm
    subst this
    exact hgo x s hi hlt) (fun s hs => by simpa using hend s (by simpa using hs)) n 0 s h0 (Nat.zero_le _) (by simpa using hn)
  simpa using this
theorem iter_allgo {R : Type} {step : Int → Option (Lp Int R)} (N : Nat) (q : R) (h : ∀ i : Nat, i < N → step (i : Int) = some (.go ((i + 1 : Nat) : Int))) (he : step (N : Int) = some (.stop q)) (n : Nat) (hn : N < n) : iter step n 0 = some q := by
  have := iter_range (step := step) N (fun (i : Nat) (_ : Unit) => (i : Int)) (fun _ _ => Lp.go ()) (fun _ => q) (fun _ _ => True) (fun i s _ hi => ⟨h i hi, fun _ _ => trivial⟩) (fun s _ => he) n () trivial hn
  rw [foldL_gom (fun _ _ => ()) _ _ (fun _ _ _ => rfl)] at this
  exact this
end Go.Abs
namespace Go.Proofs.YtbgpojdmdnkeaaaDoor
open Go.Abs
set_option linter.unusedSimpArgs false
set_option linter.unusedVariables false
theorem sane (n : Nat) : law43_sanity (n + 40) = some true := by kernel_rfl
def okSeg (s : S_api_Segment) : Prop := 0 ≤ s.Num ∧ s.Num ≤ 1099511627776 ∧ 0 ≤ s.Begin ∧ s.Begin ≤ 1099511627776 ∧ 1 ≤ s.Len ∧ s.Len ≤ 60000 ∧ 0 ≤ s.Size ∧ s.Size ≤ 1099511627776
instance (s : S_api_Segment) : Decidable (okSeg s) := by unfold okSeg; exact inferInstance
theorem right_eq (s : S_api_Segment) : playlist_right s = some (decide (okSeg s)) := by
  unfold playlist_right
  congr 1
  rw [Bool.eq_iff_iff]
  simp only [Bool.and_eq_true, decide_eq_true_eq]
  unfold okSeg
  omega
def joins (a b : S_api_Segment) : Prop := b.Num = a.Num + 1 ∧ b.Begin = a.Begin + a.Len
instance (a b : S_api_Segment) : Decidable (joins a b) := by unfold joins; exact inferInstance
theorem end_eq {s : S_api_Segment} (h : okSeg s) : playlist_end s = some (s.Begin + s.Len) := by
  unfold playlist_end
  unfold okSeg at h
  rw [w64 (by omega) (by omega)]
def Strm (l : List S_api_Segment) : Prop := (∀ i (h : i < l.length), okSeg l[i]) ∧ ∀ i (h : i + 1 < l.length), joins l[i] l[i + 1]
theorem stream_loop (l : List S_api_Segment) (hl : l.length ≤ 4294967296) (n : Nat) (hn : l.length < n) :
    ∃ r, iter (playlist_stream_L1 l) n 0 = some r ∧ ((r = .go () ∧ Strm l) ∨ (r = .stop false ∧ ¬ Strm l)) := by
  refine iter_inv (step := playlist_stream_L1 l) (fun s : Int => ∃ i : Nat, s = i ∧ i ≤ l.length ∧ (∀ j (h : j < l.length), j < i → okSeg l[j]) ∧ ∀ j (h : j + 1 < l.length), j + 1 < i → joins l[j] l[j + 1]) (fun s => l.length - s.toNat) _ ?_ n 0 ⟨0, rfl, Nat.zero_le _, fun j h hj => by omega, fun j h hj => by omega⟩ (by simpa using hn)
  rintro s ⟨i, rfl, hi, hok, hj⟩
  unfold playlist_stream_L1
  by_cases hlt : i < l.length
  · have e : decide ((i : Int) < (l.length : Int)) = true := by simpa using hlt
    simp only [e, cond_true]
    rw [idx_get' hlt, right_eq]
    simp only [obind, Option.bind_some]
    by_cases hk : okSeg l[i]
    · simp only [hk, decide_true, Bool.not_true, cond_false]
      by_cases h0 : i = 0
      · subst h0
        left
        refine ⟨1, by simp [w64], ⟨1, rfl, by omega, fun j h hj' => ?_, fun j h hj' => by omega⟩, by simp; omega⟩
        obtain rfl : j = 0 := by omega
        exact hk
      · have e1 : decide (0 < (i : Int)) = true := by simp; omega
        simp only [e1, cond_true]
        have hp : i - 1 < l.length := by omega
        rw [w64 (x := (i : Int) - 1) (by omega) (by omega), show (i : Int) - 1 = ((i - 1 : Nat) : Int) by omega, idx_get' hp]
        have hkp := hok (i - 1) hp (by omega)
        rw [end_eq hkp]
        have hkp' := hkp
        unfold okSeg at hkp'
        rw [w64 (x := l[i - 1].Num + 1) (by omega) (by omega)]
        simp only [obind, Option.bind_some]
        by_cases hjn : joins l[i - 1] l[i]
        · left
          obtain ⟨j1, j2⟩ := hjn
          refine ⟨((i + 1 : Nat) : Int), ?_, ⟨i + 1, rfl, by omega, fun j h hj' => ?_, fun j h hj' => ?_⟩, by simp; omega⟩
          · simp only [j1, j2, ne_eq, not_true_eq_false, decide_false, cond_false, bindJ_go]
            rw [w64 (x := (i : Int) + 1) (by omega) (by omega)]; rfl
          · by_cases e : j = i
            · subst e; exact hk
            · exact hok j h (by omega)
          · by_cases e : j + 1 = i
            · subst e; exact ⟨j1, j2⟩
            · exact hj j h (by omega)
        · right
          refine ⟨.stop false, ?_, .inr ⟨rfl, fun hS => hjn ?_⟩⟩
          · by_cases hn : l[i].Num = l[i - 1].Num + 1
            · have hb : ¬ l[i].Begin = l[i - 1].Begin + l[i - 1].Len := fun h => hjn ⟨hn, h⟩
              simp [hn, hb]
            · simp [hn]
          · have := hS.2 (i - 1) (by omega)
            simpa [show i - 1 + 1 = i by omega] using this
    · right
      refine ⟨.stop false, by simp [hk], .inr ⟨rfl, fun hS => hk (hS.1 i hlt)⟩⟩
  · have e : decide ((i : Int) < (l.length : Int)) = false := by simp; omega
    right
    exact ⟨.go (), by simp only [e, cond_false], .inl ⟨rfl, fun j h => hok j h (by omega), fun j h => hj j h (by omega)⟩⟩
open Classical in
theorem stream_eq (l : List S_api_Segment) (hl : l.length ≤ 4294967296) (n : Nat) (hn : l.length < n) : playlist_stream n l = some (decide (Strm l ∧ l.length ≤ 1000)) := by
  unfold playlist_stream
  obtain ⟨r, e, h⟩ := stream_loop l hl n hn
  rw [e]
  rcases h with ⟨rfl, h⟩ | ⟨rfl, h⟩
  · have e1 : ((l.length : Int) ≤ 1000) ↔ (Strm l ∧ l.length ≤ 1000) := ⟨fun q => ⟨h, by omega⟩, fun q => by have := q.2; omega⟩
    simp only [bindJ_go, e1]
  · have e1 : ¬ (Strm l ∧ l.length ≤ 1000) := fun q => h q.1
    simp only [bindJ_stop, e1, decide_false]
def VP (p : S_api_Playlist) : Prop := 0 ≤ p.First ∧ p.First ≤ 1099511627776 ∧ p.L.length ≤ 100 ∧ (∀ h : 0 < p.L.length, p.L[0].Num = p.First) ∧ Strm p.L
open Classical in
theorem valid_eq (p : S_api_Playlist) (n : Nat) (hn : 101 < n) : playlist_Valid n p = some (decide (VP p)) := by
  unfold playlist_Valid
  by_cases h1 : 0 ≤ p.First ∧ p.First ≤ 1099511627776 ∧ p.L.length ≤ 100
  · obtain ⟨a1, a2, a3⟩ := h1
    have e : ((decide (0 ≤ p.First) && decide (p.First ≤ 1099511627776)) && decide ((p.L.length : Int) ≤ 100)) = true := by simp only [Bool.and_eq_true, decide_eq_true_eq]; omega
    rw [e]
    simp only [cond_true]
    rw [stream_eq p.L (by omega) n (by omega)]
    have hS : (Strm p.L ∧ p.L.length ≤ 1000) ↔ Strm p.L := ⟨fun q => q.1, fun q => ⟨q, by omega⟩⟩
    by_cases h0 : p.L.length = 0
    · have e0 : decide ((p.L.length : Int) = 0) = true := decide_eq_true (by omega)
      have hV : VP p ↔ Strm p.L := ⟨fun h => h.2.2.2.2, fun h => ⟨a1, a2, a3, fun h' => absurd h' (by omega), h⟩⟩
      simp only [e0, cond_true, bindJ_go, obind, Option.bind_some, hS, hV]
    · have e0 : decide ((p.L.length : Int) = 0) = false := decide_eq_false (by omega)
      have hp : 0 < p.L.length := by omega
      simp only [e0, cond_false]
      rw [show (0 : Int) = ((0 : Nat) : Int) from rfl, idx_get' hp]
      by_cases hf : p.L[0].Num = p.First
      · have hV : VP p ↔ Strm p.L := ⟨fun h => h.2.2.2.2, fun h => ⟨a1, a2, a3, fun h' => hf, h⟩⟩
        simp only [hf, decide_true, bindJ_go, cond_true, obind, Option.bind_some, hS, hV]
      · have hV : ¬ VP p := fun h => hf (h.2.2.2.1 hp)
        simp only [hf, decide_false, bindJ_go, cond_false, hV]
  · have e : ((decide (0 ≤ p.First) && decide (p.First ≤ 1099511627776)) && decide ((p.L.length : Int) ≤ 100)) = false := by
      rw [Bool.eq_false_iff]; intro h; simp only [Bool.and_eq_true, decide_eq_true_eq] at h; omega
    have hV : ¬ VP p := fun h => h1 ⟨h.1, h.2.1, h.2.2.1⟩
    simp only [e, cond_false, bindJ_go, hV, decide_false]
end Go.Proofs.YtbgpojdmdnkeaaaDoor
namespace Go.Proofs.YtbgpojdmdnkeaaaDoor
open Go.Abs
set_option linter.unusedSimpArgs false
set_option linter.unusedVariables false
def digs : List UInt8 := [48, 49, 50, 51, 52, 53, 54, 55, 56, 57, 97, 98, 99, 100, 101, 102]
def hexd (n : Nat) : UInt8 := (digs[n]?).getD 0
def okDig (d : S_api_Digest) : Prop := ∀ b ∈ d.toL, 0 ≤ b ∧ b < 256
def hexP (l : List Int) : List UInt8 := l.flatMap fun b => [hexd (b.toNat / 16), hexd (b.toNat % 16)]
set_option maxRecDepth 100000 in
theorem hi_dec : ∀ b : Fin 256, Int.fdiv ((b.val : Nat) : Int) (2 ^ (min ((4 : Int).toNat) IntKind.u8.bits)) = ((b.val / 16 : Nat) : Int) := by decide +kernel
set_option maxRecDepth 100000 in
theorem lo_dec : ∀ b : Fin 256, bitAnd .u8 ((b.val : Nat) : Int) 15 = ((b.val % 16 : Nat) : Int) := by decide +kernel
theorem digs_at {n : Nat} (h : n < 16) : digs[n]? = some (hexd n) := by
  unfold hexd
  rw [List.getElem?_eq_getElem (show n < digs.length from h)]; rfl
theorem hex_loop {St : Type} (x : S_api_Segment) (hx : okDig x.Body) (n : Nat) (hn : 16 < n) :
    iter (playlist_lines_1_49_L2 (St := St) x) n ([], 0) = some (.go (hexP x.Body.toL)) := by
  have h16 : x.Body.toL.length = 16 := rfl
  have key := iter_range (step := playlist_lines_1_49_L2 (St := St) x) 16 (fun i (hex : List UInt8) => (hex, (i : Int))) (fun hex i => .go (hex ++ [hexd ((x.Body.toL[i]?.getD 0).toNat / 16), hexd ((x.Body.toL[i]?.getD 0).toNat % 16)])) (fun hex => .go hex) (fun i hex => hex.length = 2 * i) (by
    intro i hex hl hi
    refine ⟨?_, fun s' hs' => by cases hs'; simp; omega⟩
    unfold playlist_lines_1_49_L2
    have e : decide ((i : Int) < 16) = true := by simp; omega
    simp only [e, cond_true]
    rw [need_pos (by omega)]
    have hg : S_api_Digest.get x.Body (i : Int) = x.Body.toL[i]'(by omega) := by
      unfold S_api_Digest.get
      rw [Int.toNat_natCast, List.getElem?_eq_getElem (by omega)]; rfl
    have hb := hx _ (List.getElem_mem (show i < x.Body.toL.length by omega))
    rw [hg, List.getElem?_eq_getElem (show i < x.Body.toL.length by omega)]
    generalize x.Body.toL[i]'(by omega) = b at hb
    simp only [obind, Option.bind_some, Option.getD_some]
    obtain ⟨m, rfl⟩ : ∃ m : Nat, b = m := ⟨b.toNat, by omega⟩
    have h1 := hi_dec ⟨m, by omega⟩
    have h2 := lo_dec ⟨m, by omega⟩
    simp only at h1 h2
    rw [h1, h2]
    have := idx_get (β := Lp (List UInt8 × Int) (Lp (List UInt8) (Lp (Int × St) (Lp St St)))) (digs_at (n := m / 16) (by omega))
    rw [show ([48, 49, 50, 51, 52, 53, 54, 55, 56, 57, 97, 98, 99, 100, 101, 102] : List UInt8) = digs from rfl, this]
    have := idx_get (β := Lp (List UInt8 × Int) (Lp (List UInt8) (Lp (Int × St) (Lp St St)))) (digs_at (n := m % 16) (by omega))
    rw [this, need_pos (by simp; omega), w64 (by omega) (by omega)]
    simp) (by
    intro hex _
    unfold playlist_lines_1_49_L2
    simp) n [] rfl hn
  have e : iter (playlist_lines_1_49_L2 (St := St) x) n ([], 0) = _ := key
  rw [e, foldL_go (fun (hex : List UInt8) (i : Nat) => hex ++ [hexd ((x.Body.toL[i]?.getD 0).toNat / 16), hexd ((x.Body.toL[i]?.getD 0).toNat % 16)]) (fun _ _ => rfl)]
  rfl
/-- one line -/
def lineP (s : S_api_Segment) : List UInt8 := itoaP s.Begin ++ 32 :: (itoaP s.Len ++ 32 :: (itoaP s.Size ++ 32 :: hexP s.Body.toL))
def headP (p : S_api_Playlist) : List UInt8 := [108, 105, 118, 101, 32] ++ itoaP p.First
def linesP (p : S_api_Playlist) : List (List UInt8) := headP p :: (p.L.map lineP ++ if p.Done then [[100, 111, 110, 101]] else [])
def textP (p : S_api_Playlist) : List UInt8 := (linesP p).flatMap fun l => l ++ [10]
theorem join4 (a b c d : List UInt8) : joinP [a, b, c, d] [32] = a ++ 32 :: (b ++ 32 :: (c ++ 32 :: d)) := by
  simp [joinP, List.intercalate, List.intersperse]
theorem decF_len : ∀ k u, (decF k u).length ≤ k
  | 0, _ => Nat.le_refl _
  | k + 1, u => by
    unfold decF
    split
    · simp
    · have := decF_len k (u / 10); simp; omega
theorem itoaP_len (n : Int) : (itoaP n).length ≤ 21 := by
  unfold itoaP
  split
  · have := decF_len 20 n.natAbs; simp; omega
  · have := decF_len 20 n.toNat; omega
theorem hexP_len (l : List Int) : (hexP l).length = 2 * l.length := by
  induction l with
  | nil => rfl
  | cons x r ih => unfold hexP at ih ⊢; rw [List.flatMap_cons, List.length_append, ih]; simp; omega
theorem lineP_len (s : S_api_Segment) : (lineP s).length ≤ 98 := by
  unfold lineP
  have h1 := itoaP_len s.Begin; have h2 := itoaP_len s.Len; have h3 := itoaP_len s.Size; have h4 := hexP_len s.Body.toL
  have h5 : s.Body.toL.length = 16 := rfl
  simp; omega
theorem itoa_ok {n : Int} (h0 : -9223372036854775808 ≤ n) (h1 : n ≤ 9223372036854775807) : itoaH n = some (itoaP n) := need_pos ⟨h0, h1⟩ _
theorem yield_ok {out x : List UInt8} (h : out.length + x.length ≤ 1000000) : yieldOf playlist_Text_R1 (out, none) x = some ((out ++ (x ++ [10]), none), true) := by
  unfold yieldOf playlist_Text_R1
  simp only
  rw [need_pos (by simp; omega), need_pos (by simp; omega)]
  rfl
theorem foldl_flat {α β : Type} (f : α → List β) : ∀ (l : List α) (o : List β), l.foldl (fun o s => o ++ f s) o = o ++ l.flatMap f
  | [], o => by simp
  | x :: r, o => by rw [List.foldl_cons, foldl_flat f r]; simp
theorem lines_loop (p : S_api_Playlist) (hp : VP p) (hd : ∀ s ∈ p.L, okDig s.Body) (out : List UInt8) (ho : out.length ≤ 1000) (n : Nat) (hn : 101 < n) :
    iter (playlist_lines_1_49_L1 n (yieldOf playlist_Text_R1) p) n (0, (out, none)) = some (.go (out ++ p.L.flatMap fun s => lineP s ++ [10], none)) := by
  have hL := hp.2.2.1
  have key := iter_fold (l := p.L) (step := playlist_lines_1_49_L1 n (yieldOf playlist_Text_R1) p) (fun i (o : List UInt8) => ((i : Int), (o, (none : Option Nat)))) (fun o s => .go (o ++ (lineP s ++ [10]))) (fun o => .go (o, none)) (fun i o => o.length ≤ 1000 + 100 * i) (by
    intro i o s hl hs
    obtain ⟨hi, rfl⟩ := List.getElem?_eq_some_iff.1 hs
    have hln := lineP_len p.L[i]
    refine ⟨?_, fun s' hs' => by cases hs'; simp; omega⟩
    unfold playlist_lines_1_49_L1
    have e : decide ((i : Int) < (p.L.length : Int)) = true := by simpa using hi
    have hk := hp.2.2.2.2.1 i hi
    unfold okSeg at hk
    simp only [e, cond_true]
    rw [idx_get' hi, hex_loop _ (hd _ (List.getElem_mem hi)) n (by omega), bindJ_go, itoa_ok (by omega) (by omega), itoa_ok (by omega) (by omega), itoa_ok (by omega) (by omega)]
    simp only [obind, Option.bind_some]
    have hj : joinH [itoaP p.L[i].Begin, itoaP p.L[i].Len, itoaP p.L[i].Size, hexP p.L[i].Body.toL] [32] = some (lineP p.L[i]) := by
      unfold joinH
      rw [join4]
      exact need_pos ⟨by simp, by simp, by show (lineP p.L[i]).length ≤ _; omega⟩ _
    rw [hj]
    simp only [Option.bind_some]
    rw [yield_ok (by omega)]
    simp only [Option.bind_some, Bool.not_true, cond_false]
    rw [w64 (by omega) (by omega)]
    simp) (by
    intro o _
    unfold playlist_lines_1_49_L1
    simp) n 0 out (by omega) (Nat.zero_le _) (by omega)
  have e : iter (playlist_lines_1_49_L1 n (yieldOf playlist_Text_R1) p) n (0, (out, none)) = _ := key
  rw [e, List.drop_zero, foldL_go (fun (o : List UInt8) (s : S_api_Segment) => o ++ (lineP s ++ [10])) (fun _ _ => rfl)]
  rw [foldl_flat]
open Classical in
theorem text_eq (p : S_api_Playlist) (hd : ∀ s ∈ p.L, okDig s.Body) (n : Nat) (hn : 101 < n) : playlist_Text n p = some (if VP p then (textP p, 0) else ([], 3)) := by
  unfold playlist_Text
  rw [valid_eq p n hn]
  by_cases hp : VP p
  · have h1 := hp.1
    have h2 := hp.2.1
    have hl := itoaP_len p.First
    have hL := hp.2.2.1
    simp only [hp, decide_true, obind, Option.bind_some, Bool.not_true, cond_false, if_true]
    unfold playlist_lines playlist_lines_1_49
    rw [itoa_ok (by omega) (by omega)]
    simp only [obind, Option.bind_some]
    rw [need_pos (by simp; omega), yield_ok (by simp; omega)]
    simp only [Option.bind_some, Bool.not_true, cond_false]
    rw [lines_loop p hp hd _ (by simp; omega) n hn, bindJ_go]
    have hlen : ∀ l : List S_api_Segment, (l.flatMap fun s => lineP s ++ [10]).length ≤ 100 * l.length := by
      intro l
      induction l with
      | nil => simp
      | cons x r ih => have := lineP_len x; rw [List.flatMap_cons, List.length_append, List.length_append]; simp only [List.length_cons, List.length_nil]; omega
    have hle := hlen p.L
    unfold textP linesP headP
    cases hD : p.Done with
    | false =>
      simp only [cond_false, Option.bind_some, onJump]
      simp [List.flatMap_map]
    | true =>
      simp only [cond_true]
      rw [yield_ok (by simp only [List.length_append, List.length_cons, List.length_nil]; omega)]
      simp only [Option.bind_some, onJump]
      simp [List.flatMap_map]
  · simp only [hp, decide_false, obind, Option.bind_some, Bool.not_false, cond_true, if_false]
end Go.Proofs.YtbgpojdmdnkeaaaDoor
namespace Go.Proofs.YtbgpojdmdnkeaaaDoor
open Go.Abs
set_option linter.unusedSimpArgs false
set_option linter.unusedVariables false
def numP (s : List UInt8) : Option Int := match Lib.atoiAll s with
  | .ok v => if itoaP v = s then some v else none
  | _ => none
def toPn {A : Type} : Option A → Pn A
  | some a => .ret a
  | none => .pan 3
theorem number_eq (s : List UInt8) (hs : s.length ≤ 4294967296) : playlist_number s = some (toPn (numP s)) := by
  unfold playlist_number atoiH numP
  rw [need_pos hs]
  unfold atoiP
  cases h : Lib.atoiAll s with
  | ok v =>
    obtain ⟨b1, b2⟩ := Lib.atoiAll_bounds h
    have e1 : IntKind.i64.min = -9223372036854775808 := rfl
    have e2 : IntKind.i64.max = 9223372036854775807 := rfl
    simp only [obind, Option.bind_some, cond_true]
    rw [itoa_ok (by omega) (by omega)]
    simp only [Option.bind_some, bindJ_go]
    by_cases hk : itoaP v = s
    · simp only [hk, decide_true, if_true]; rfl
    · simp only [hk, decide_false, if_false]; rfl
  | range => rfl
  | _ => rfl
theorem byte_back (c : UInt8) : ((c.toNat : Nat) : Int).toNat.toUInt8 = c := by simp
def chr (x : List UInt8) (i : Nat) : UInt8 := (x[i]?).getD 0
def good (x : List UInt8) (j : Nat) : Prop := 0 ≤ idxP digs (chr x (2 * j)) ∧ 0 ≤ idxP digs (chr x (2 * j + 1))
instance (x : List UInt8) (j : Nat) : Decidable (good x j) := by unfold good; exact inferInstance
def val (x : List UInt8) (j : Nat) : Int := 16 * idxP digs (chr x (2 * j)) + idxP digs (chr x (2 * j + 1))
theorem idxN_lt (c : UInt8) : ∀ (l : List UInt8) (n : Nat), idxN c l = some n → n < l.length
  | [], n, h => by simp [idxN] at h
  | b :: r, n, h => by
    unfold idxN at h
    split at h
    · simp at h; subst h; simp
    · cases hr : idxN c r with
      | none => rw [hr] at h; simp at h
      | some m => rw [hr] at h; simp at h; have := idxN_lt c r m hr; simp; omega
theorem idxP_lt (c : UInt8) : -1 ≤ idxP digs c ∧ idxP digs c < 16 := by
  unfold idxP
  cases h : idxN c digs with
  | none => simp
  | some n => have := idxN_lt c digs n h; simp [digs] at this; simp; omega
theorem w8 {x : Int} (h0 : 0 ≤ x) (h1 : x < 256) : IntKind.u8.wrap x = x := by
  obtain ⟨m, rfl⟩ : ∃ m : Nat, x = m := ⟨x.toNat, by omega⟩
  have : ∀ b : Fin 256, IntKind.u8.wrap ((b.val : Nat) : Int) = ((b.val : Nat) : Int) := by decide +kernel
  exact this ⟨m, by omega⟩
def tupS (i : Nat) (d : S_api_Digest) := ((i : Int), d.a0_, d.a1_, d.a2_, d.a3_, d.a4_, d.a5_, d.a6_, d.a7_, d.a8_, d.a9_, d.a10_, d.a11_, d.a12_, d.a13_, d.a14_, d.a15_)
def tupD (d : S_api_Digest) := (d.a0_, d.a1_, d.a2_, d.a3_, d.a4_, d.a5_, d.a6_, d.a7_, d.a8_, d.a9_, d.a10_, d.a11_, d.a12_, d.a13_, d.a14_, d.a15_)
theorem seg_loop (r2 : List (List UInt8)) (x : List UInt8) (hr : r2[3]? = some x) (hx : x.length = 32) (n : Nat) (hn : 16 < n) :
    ∃ r, iter (playlist_segment_L1 r2) n (0, 0, 0, 0, 0, 0, 0, 0, 0, 0, 0, 0, 0, 0, 0, 0, 0) = some r ∧
      ((∃ d, r = .go (tupD d) ∧ (∀ j, j < 16 → good x j) ∧ d.toL = (List.range 16).map (val x)) ∨ (r = .stop (.pan 3) ∧ ∃ j, j < 16 ∧ ¬ good x j)) := by
  refine iter_inv (step := playlist_segment_L1 r2) (fun s => ∃ (i : Nat) (d : S_api_Digest), s = tupS i d ∧ i ≤ 16 ∧ (∀ j, j < i → good x j) ∧ d.toL = (List.range 16).map fun j => if j < i then val x j else 0) (fun s => 16 - s.1.toNat) _ ?_ n _ ⟨0, ⟨0, 0, 0, 0, 0, 0, 0, 0, 0, 0, 0, 0, 0, 0, 0, 0⟩, rfl, by omega, fun j hj => by omega, rfl⟩ (by simpa using hn)
  rintro s ⟨i, d, rfl, hi, hg, hd⟩
  by_cases hlt : i < 16
  · have e : decide ((i : Int) < 16) = true := by simp; omega
    have c1 : x[2 * i]? = some (chr x (2 * i)) := by unfold chr; rw [List.getElem?_eq_getElem (by omega)]; rfl
    have c2 : x[2 * i + 1]? = some (chr x (2 * i + 1)) := by unfold chr; rw [List.getElem?_eq_getElem (by omega)]; rfl
    have l1 := idxP_lt (chr x (2 * i)); have l2 := idxP_lt (chr x (2 * i + 1))
    unfold playlist_segment_L1 tupS
    simp only [e, cond_true]
    rw [show (3 : Int) = ((3 : Nat) : Int) from rfl, idx_get hr, w64 (x := 2 * (i : Int)) (by omega) (by omega), show 2 * (i : Int) = ((2 * i : Nat) : Int) by omega, idx_get c1,
      w64 (x := ((2 * i : Nat) : Int) + 1) (by omega) (by omega), show ((2 * i : Nat) : Int) + 1 = ((2 * i + 1 : Nat) : Int) by omega, idx_get c2]
    simp only [idxH, obind, Option.bind_some, byte_back]
    rw [show ([48, 49, 50, 51, 52, 53, 54, 55, 56, 57, 97, 98, 99, 100, 101, 102] : List UInt8) = digs from rfl]
    by_cases hk : good x i
    · left
      have e1 : (decide (0 ≤ idxP digs (chr x (2 * i))) && decide (0 ≤ idxP digs (chr x (2 * i + 1)))) = true := by simp only [Bool.and_eq_true, decide_eq_true_eq]; exact hk
      obtain ⟨k1, k2⟩ := hk
      rw [w64 (x := 16 * idxP digs (chr x (2 * i))) (by omega) (by omega), w64 (x := 16 * idxP digs (chr x (2 * i)) + idxP digs (chr x (2 * i + 1))) (by omega) (by omega), w8 (x := 16 * idxP digs (chr x (2 * i)) + idxP digs (chr x (2 * i + 1))) (by omega) (by omega)]
      simp only [playlist_must, e1, Bool.not_true, cond_false, Option.bind_some, pbind]
      rw [need_pos (by omega), w64 (x := (i : Int) + 1) (by omega) (by omega)]
      refine ⟨_, rfl, ⟨i + 1, S_api_Digest.put d (i : Int) (val x i), rfl, by omega, fun j hj => ?_, ?_⟩, ?_⟩
      · by_cases e : j = i
        · subst e; exact ⟨k1, k2⟩
        · exact hg j (by omega)
      · rw [S_api_Digest.put_toL, hd, Int.toNat_natCast]
        apply List.ext_getElem
        · simp
        · intro j h1 h2
          simp at h1
          rw [List.getElem_set]
          by_cases e : i = j
          · subst e; simp
          · simp [e]; by_cases h3 : j < i
            · simp [h3, show j < i + 1 by omega]
            · simp [h3, show ¬ j < i + 1 by omega]
      · simp; omega
    · right
      have e1 : (decide (0 ≤ idxP digs (chr x (2 * i))) && decide (0 ≤ idxP digs (chr x (2 * i + 1)))) = false := by
        rw [Bool.eq_false_iff]; intro h; simp only [Bool.and_eq_true, decide_eq_true_eq] at h; exact hk h
      refine ⟨.stop (.pan 3), ?_, .inr ⟨rfl, i, hlt, hk⟩⟩
      simp only [playlist_must, e1, Bool.not_false, cond_true, Option.bind_some, pbind]
  · have e : decide ((i : Int) < 16) = false := by simp; omega
    obtain rfl : i = 16 := by omega
    right
    refine ⟨.go (tupD d), by unfold playlist_segment_L1 tupS; simp only [e, cond_false]; rfl, .inl ⟨d, rfl, hg, ?_⟩⟩
    rw [hd]
    exact List.map_congr_left fun j hj => by simp at hj; simp [hj]
def hexI (x : List UInt8) : S_api_Digest := S_api_Digest.ofL ⟨0, 0, 0, 0, 0, 0, 0, 0, 0, 0, 0, 0, 0, 0, 0, 0⟩ ((List.range 16).map (val x))
theorem hexI_eq {d : S_api_Digest} {x : List UInt8} (h : d.toL = (List.range 16).map (val x)) : d = hexI x := by
  have h2 : (hexI x).toL = (List.range 16).map (val x) := S_api_Digest.ofL_toL _ _ (by simp)
  have e : d.toL = (hexI x).toL := h.trans h2.symm
  cases d
  simp only [S_api_Digest.toL, List.cons.injEq, and_true] at e
  obtain ⟨e0, e1, e2, e3, e4, e5, e6, e7, e8, e9, e10, e11, e12, e13, e14, e15⟩ := e
  generalize hexI x = q at *
  cases q
  simp only at e0 e1 e2 e3 e4 e5 e6 e7 e8 e9 e10 e11 e12 e13 e14 e15
  subst_vars
  rfl
def allgood (x : List UInt8) : Bool := (List.range 16).all fun j => decide (good x j)
theorem allgood_iff {x : List UInt8} : allgood x = true ↔ ∀ j, j < 16 → good x j := by simp [allgood]
def segP (s : List UInt8) : Option S_api_Segment := match splitP 32 s with
  | [a, b, c, x] => if x.length = 32 ∧ allgood x = true then (numP a).bind fun va => (numP b).bind fun vb => (numP c).bind fun vc => some ⟨0, va, vb, hexI x, vc⟩ else none
  | _ => none
theorem split_mem (c : UInt8) : ∀ (l x : List UInt8), x ∈ splitP c l → x.length ≤ l.length
  | [], x, h => by simp [splitP] at h; subst h; simp
  | b :: r, x, h => by
    unfold splitP at h
    split at h
    · rcases List.mem_cons.1 h with rfl | h
      · simp
      · have := split_mem c r x h; simp; omega
    · cases hs : splitP c r with
      | nil => exact absurd hs (splitP_ne c r)
      | cons y ys =>
        rw [hs] at h
        simp only at h
        rcases List.mem_cons.1 h with rfl | h
        · have := split_mem c r y (by rw [hs]; exact List.mem_cons_self ..); simp; omega
        · have := split_mem c r x (by rw [hs]; exact List.mem_cons_of_mem _ h); simp; omega
theorem segment_eq (s : List UInt8) (hs : s.length ≤ 1000000) (n : Nat) (hn : 16 < n) : playlist_segment n s = some (toPn (segP s)) := by
  have hm := fun x hx => Nat.le_trans (split_mem 32 s x hx) hs
  unfold playlist_segment splitH segP
  rw [need_pos (by omega)]
  simp only [obind, Option.bind_some]
  generalize splitP 32 s = l at hm
  by_cases h4 : l.length = 4
  · match l, h4 with
    | [a, b, c, x], _ =>
      have na := number_eq a (by have := hm a (by simp); omega)
      have nb := number_eq b (by have := hm b (by simp); omega)
      have nc := number_eq c (by have := hm c (by simp); omega)
      have e4 : decide ((([a, b, c, x] : List (List UInt8)).length : Int) = 4) = true := rfl
      simp only [e4, cond_true]
      rw [show (3 : Int) = ((3 : Nat) : Int) from rfl, idx_get (x := x) rfl]
      by_cases hx : x.length = 32
      · have e5 : decide ((x.length : Int) = 32) = true := decide_eq_true (by omega)
        simp only [e5, bindJ_go, playlist_must, Bool.not_true, cond_false, Option.bind_some, pbind]
        rw [show (0 : Int) = ((0 : Nat) : Int) from rfl, idx_get (x := a) rfl, na, show (1 : Int) = ((1 : Nat) : Int) from rfl]
        simp only [Option.bind_some]
        rw [idx_get (x := b) rfl, nb, show (2 : Int) = ((2 : Nat) : Int) from rfl]
        simp only [Option.bind_some]
        rw [idx_get (x := c) rfl, nc]
        simp only [Option.bind_some, hx, true_and]
        obtain ⟨r, hr, h⟩ := seg_loop [a, b, c, x] x rfl hx n hn
        have hr' : iter (playlist_segment_L1 [a, b, c, x]) n (((0 : Nat) : Int), ((0 : Nat) : Int), ((0 : Nat) : Int), ((0 : Nat) : Int), ((0 : Nat) : Int), ((0 : Nat) : Int), ((0 : Nat) : Int), ((0 : Nat) : Int), ((0 : Nat) : Int), ((0 : Nat) : Int), ((0 : Nat) : Int), ((0 : Nat) : Int), ((0 : Nat) : Int), ((0 : Nat) : Int), ((0 : Nat) : Int), ((0 : Nat) : Int), ((0 : Nat) : Int)) = some r := hr
        rw [hr']
        cases numP a with
        | none => simp only [toPn, Option.bind_none, ite_self]
        | some va =>
          cases numP b with
          | none => simp only [toPn, Option.bind_none, Option.bind_some, ite_self]
          | some vb =>
            cases numP c with
            | none => simp only [toPn, Option.bind_none, Option.bind_some, ite_self]
            | some vc =>
              rcases h with ⟨d, rfl, hg, hd⟩ | ⟨rfl, j, hj, hb⟩
              · rw [if_pos (allgood_iff.2 hg), ← hexI_eq hd]
                rfl
              · rw [if_neg (fun h => hb (allgood_iff.1 h j hj))]
                rfl
      · have e5 : decide ((x.length : Int) = 32) = false := decide_eq_false (by omega)
        simp only [e5, bindJ_go, playlist_must, Bool.not_false, cond_true, Option.bind_some, pbind, hx, false_and, if_false]
        rfl
  · have e4 : decide ((l.length : Int) = 4) = false := decide_eq_false (by omega)
    simp only [e4, cond_false, bindJ_go, playlist_must, Bool.not_false, cond_true, Option.bind_some, pbind]
    match l, h4 with
    | [], _ => rfl
    | [_], _ => rfl
    | [_, _], _ => rfl
    | [_, _, _], _ => rfl
    | _ :: _ :: _ :: _ :: _ :: _, _ => rfl
end Go.Proofs.YtbgpojdmdnkeaaaDoor
namespace Go.Proofs.YtbgpojdmdnkeaaaDoor
open Go.Abs
set_option linter.unusedSimpArgs false
set_option linter.unusedVariables false
/-- the segments of the lines from number i on -/
def segsP (first : Int) : Nat → List (List UInt8) → Option (List S_api_Segment)
  | _, [] => some []
  | i, x :: r => (segP x).bind fun y => (segsP first (i + 1) r).map fun l => ⟨IntKind.i64.wrap (first + i), y.Begin, y.Len, y.Body, y.Size⟩ :: l
theorem parse_loop (first : Int) (l : List (List UInt8)) (hl : l.length ≤ 1000000) (hx : ∀ x ∈ l, x.length ≤ 1000000) (n : Nat) (hn : l.length < n) (h16 : 16 < n) :
    iter (playlist_Parse_L1 n first l) n (0, []) = some (match segsP first 0 l with | some r => .go r | none => .stop (⟨0, [], false⟩, 3)) := by
  have key := iter_fold (l := l) (step := playlist_Parse_L1 n first l) (fun i (o : Nat × List S_api_Segment) => ((i : Int), o.2)) (fun o x => match segP x with
      | some y => .go (o.1 + 1, o.2 ++ [⟨IntKind.i64.wrap (first + o.1), y.Begin, y.Len, y.Body, y.Size⟩])
      | none => .stop (.stop (⟨0, [], false⟩, 3))) (fun o => .go o.2) (fun i o => o.1 = i ∧ o.2.length = i) (by
    rintro i ⟨k, o⟩ x ⟨hk, ho⟩ hs
    simp only at hk ho
    subst hk
    obtain ⟨hi, rfl⟩ := List.getElem?_eq_some_iff.1 hs
    have hxl := hx _ (List.getElem_mem hi)
    have e : decide ((k : Int) < (l.length : Int)) = true := by simpa using hi
    unfold playlist_Parse_L1
    simp only [e, cond_true]
    rw [idx_get' hi, segment_eq _ hxl n h16]
    simp only [obind, Option.bind_some]
    cases segP l[k] with
    | none => exact ⟨rfl, fun s' hs' => by cases hs'⟩
    | some y =>
      simp only [toPn, pbind]
      rw [need_pos (by simp; omega), w64 (x := (k : Int) + 1) (by omega) (by omega)]
      exact ⟨rfl, fun s' hs' => by cases hs'; exact ⟨rfl, by simp [ho]⟩⟩) (by
    rintro ⟨k, o⟩ _
    unfold playlist_Parse_L1
    simp) n 0 (0, []) ⟨rfl, rfl⟩ (Nat.zero_le _) (by omega)
  have e : iter (playlist_Parse_L1 n first l) n (0, []) = _ := key
  rw [e, List.drop_zero]
  have gen : ∀ (l : List (List UInt8)) (k : Nat) (o : List S_api_Segment), foldL (R := Lp (List S_api_Segment) (S_api_Playlist × Int)) (fun (o : Nat × List S_api_Segment) x => match segP x with
      | some y => .go (o.1 + 1, o.2 ++ [⟨IntKind.i64.wrap (first + o.1), y.Begin, y.Len, y.Body, y.Size⟩])
      | none => .stop (.stop (⟨0, [], false⟩, 3))) (fun o => .go o.2) (k, o) l = match segsP first k l with | some r => .go (o ++ r) | none => .stop (⟨0, [], false⟩, 3) := by
    intro l
    induction l with
    | nil => intro k o; simp [foldL, segsP]
    | cons x r ih =>
      intro k o
      unfold foldL segsP
      cases segP x with
      | none => rfl
      | some y =>
        simp only [Option.bind_some]
        rw [ih]
        cases segsP first (k + 1) r with
        | none => rfl
        | some q => simp
  rw [gen l 0 []]
  cases segsP first 0 l <;> simp
theorem cut_eq (x : List UInt8) (hx : x.length ≤ 1000000) : strings_CutPrefix_35 x [108, 105, 118, 101, 32] = some (if x.take 5 = [108, 105, 118, 101, 32] then (x.drop 5, true) else (x, false)) := by
  unfold strings_CutPrefix_35 internal_stringslite_CutPrefix_53 internal_stringslite_HasPrefix_64
  have e5 : ((([108, 105, 118, 101, 32] : List UInt8).length : Int)) = 5 := rfl
  simp only [e5]
  by_cases h5 : 5 ≤ x.length
  · have e : decide ((5 : Int) ≤ (x.length : Int)) = true := decide_eq_true (by omega)
    simp only [e, cond_true]
    rw [need_pos (by omega)]
    simp only [bindJ_go, obind, Option.bind_some]
    by_cases hp : x.take 5 = [108, 105, 118, 101, 32]
    · have : x.take ((5 : Int).toNat) = [108, 105, 118, 101, 32] := hp
      simp only [this, hp, decide_true, Bool.not_true, cond_false, if_true]
      rw [need_pos (by omega)]
      rfl
    · have : ¬ x.take ((5 : Int).toNat) = [108, 105, 118, 101, 32] := hp
      simp only [this, hp, decide_false, Bool.not_false, cond_true, if_false]
      rfl
  · have e : decide ((5 : Int) ≤ (x.length : Int)) = false := decide_eq_false (by omega)
    have hp : ¬ x.take 5 = [108, 105, 118, 101, 32] := fun h => by
      have := congrArg List.length h
      simp at this; omega
    simp only [e, cond_false, bindJ_go, obind, Option.bind_some, Bool.not_false, cond_true, hp, if_false]
def endsP (t : List (List UInt8)) : List (List UInt8) × Bool := if t.getLast? = some [100, 111, 110, 101] then (t.dropLast, true) else (t, false)
open Classical in
/-- what Parse returns, where the text is short enough -/
noncomputable def parseP (s : List UInt8) : Option S_api_Playlist :=
  let l := splitP 10 s
  if l.getLast? = some [] then
    match l.dropLast with
    | [] => none
    | h :: t => if h.take 5 = [108, 105, 118, 101, 32] then (numP (h.drop 5)).bind fun first => (segsP first 0 (endsP t).1).bind fun q => if VP ⟨first, q, (endsP t).2⟩ then some ⟨first, q, (endsP t).2⟩ else none else none
  else none
theorem take_len {α : Type} (l : List α) (hl : l.length ≤ 1000000) (h0 : 0 < l.length) : l.take ((IntKind.i64.wrap ((l.length : Int) - 1)).toNat) = l.dropLast := by
  rw [w64 (by omega) (by omega), List.dropLast_eq_take]
  congr 1
  omega
theorem idx_last {α β : Type} {l : List α} (hl : l.length ≤ 1000000) (h0 : l ≠ []) (k : α → Option β) : idx l (IntKind.i64.wrap ((l.length : Int) - 1)) k = k (l.getLast h0) := by
  have := List.length_pos_iff.2 h0
  rw [w64 (by omega) (by omega), show (l.length : Int) - 1 = ((l.length - 1 : Nat) : Int) by omega, idx_get' (by omega), List.getLast_eq_getElem]
end Go.Proofs.YtbgpojdmdnkeaaaDoor
namespace Go.Proofs.YtbgpojdmdnkeaaaDoor
open Go.Abs
set_option linter.unusedSimpArgs false
set_option linter.unusedVariables false
theorem dig_nat : ∀ d : Fin 10, (UInt8.ofNat (48 + d.val)).toNat = 48 + d.val := by decide
theorem dig_nat' {d : Nat} (h : d < 10) : (UInt8.ofNat (48 + d)).toNat = 48 + d := dig_nat ⟨d, h⟩
theorem decF_dig : ∀ (k u : Nat) (b : UInt8), b ∈ decF k u → 48 ≤ b.toNat ∧ b.toNat ≤ 57
  | 0, u, b, h => by simp [decF] at h
  | k + 1, u, b, h => by
    unfold decF at h
    split at h
    · rename_i hu
      rw [List.mem_singleton.1 h]
      have := dig_nat' hu; omega
    · rcases List.mem_append.1 h with h | h
      · exact decF_dig k _ b h
      · rw [List.mem_singleton.1 h]
        have := dig_nat' (show u % 10 < 10 by omega); omega
theorem decF_parse : ∀ (k u : Nat) (r : List UInt8), u < 10 ^ k → 0 < k → u ≤ 1125899906842624 → Lib.parseUint10 0 (decF k u ++ r) = Lib.parseUint10 u r
  | 0, u, r, _, h, _ => by omega
  | k + 1, u, r, h, _, hb => by
    unfold decF
    by_cases hu : u < 10
    · have := dig_nat' hu
      simp only [hu, if_true, List.cons_append, List.nil_append, Lib.parseUint10]
      rw [this, if_pos (by omega), if_neg (by omega), if_neg (by omega)]
      congr 1; omega
    · have := dig_nat' (show u % 10 < 10 by omega)
      have hk : 0 < k := by
        rcases Nat.eq_zero_or_pos k with rfl | h'
        · simp at h; omega
        · exact h'
      simp only [hu, if_false, List.append_assoc, List.cons_append, List.nil_append]
      rw [decF_parse k (u / 10) _ (by rw [Nat.pow_succ] at h; omega) hk (by omega)]
      simp only [Lib.parseUint10]
      rw [this, if_pos (by omega), if_neg (by omega), if_neg (by omega)]
      congr 1; omega
theorem decF_ne (k u : Nat) : decF (k + 1) u ≠ [] := by
  unfold decF
  split
  · simp
  · simp
theorem itoaP_dig {v : Int} (h : 0 ≤ v) (b : UInt8) (hb : b ∈ itoaP v) : 48 ≤ b.toNat ∧ b.toNat ≤ 57 := by
  unfold itoaP at hb
  rw [if_neg (by omega)] at hb
  exact decF_dig _ _ _ hb
theorem numP_itoa {v : Int} (h0 : 0 ≤ v) (h1 : v ≤ 1125899906842624) : numP (itoaP v) = some v := by
  have ha : Lib.atoiAll (itoaP v) = .ok v := by
    have hd := fun b => decF_dig 20 v.toNat b
    have hp := decF_parse 20 v.toNat [] (Nat.lt_of_le_of_lt (show v.toNat ≤ 1125899906842624 by omega) (by decide)) (by omega) (by omega)
    have hne := decF_ne 19 v.toNat
    unfold itoaP
    rw [if_neg (by omega)]
    rw [List.append_nil] at hp
    generalize decF 20 v.toNat = l at hd hp hne
    cases l with
    | nil => exact absurd rfl hne
    | cons c r =>
      have hc := hd c (List.mem_cons_self ..)
      unfold Lib.atoiAll Lib.parseMag
      have a1 : ¬ c.toNat = 43 := by omega
      have a2 : ¬ c.toNat = 45 := by omega
      have a3 : ¬ (9223372036854775808 ≤ v.toNat) := by omega
      have a4 : ((v.toNat : Nat) : Int) = v := by omega
      simp only [a1, a2, or_self, if_false, hne, hp, Lib.parseUint10, not_false_eq_true, true_and, false_and, a3, a4]
  unfold numP
  rw [ha]
  simp
theorem split_app (c : UInt8) : ∀ (x r : List UInt8), c ∉ x → splitP c (x ++ c :: r) = x :: splitP c r
  | [], r, _ => by simp [splitP]
  | b :: x, r, h => by
    have hb : ¬ b = c := fun e => h (by subst e; exact List.mem_cons_self ..)
    have ih := split_app c x r (fun e => h (List.mem_cons_of_mem _ e))
    rw [List.cons_append, splitP, ih]
    simp [hb]
theorem split_one (c : UInt8) : ∀ (x : List UInt8), c ∉ x → splitP c x = [x]
  | [], _ => by simp [splitP]
  | b :: x, h => by
    have hb : ¬ b = c := fun e => h (by subst e; exact List.mem_cons_self ..)
    have ih := split_one c x (fun e => h (List.mem_cons_of_mem _ e))
    rw [splitP, ih]
    simp [hb]
theorem split_back (c : UInt8) : ∀ (s : List UInt8), ((splitP c s).dropLast.flatMap fun x => x ++ [c]) ++ (splitP c s).getLast (splitP_ne c s) = s
  | [] => by simp [splitP]
  | b :: r => by
    have ih := split_back c r
    have hne := splitP_ne c r
    cases hs : splitP c r with
    | nil => exact absurd hs hne
    | cons y ys =>
      simp only [hs] at ih
      by_cases hb : b = c
      · subst hb
        have e : splitP b (b :: r) = [] :: y :: ys := by rw [splitP, hs]; simp
        simp only [e, List.dropLast_cons_cons, List.flatMap_cons, List.nil_append, List.cons_append, List.getLast_cons_cons]
        rw [ih]
      · have e : splitP c (b :: r) = (b :: y) :: ys := by rw [splitP, hs]; simp [hb]
        simp only [e]
        cases ys with
        | nil => simpa using ih
        | cons z zs =>
          simp only [List.dropLast_cons_cons, List.flatMap_cons, List.append_assoc, List.cons_append, List.getLast_cons_cons] at ih ⊢
          rw [ih]
theorem split_lines (c : UInt8) : ∀ (l : List (List UInt8)), (∀ x ∈ l, c ∉ x) → splitP c (l.flatMap fun x => x ++ [c]) = l ++ [[]]
  | [], _ => by simp [splitP]
  | x :: r, h => by
    rw [List.flatMap_cons, List.append_assoc, List.cons_append, List.nil_append, split_app c x _ (h x (List.mem_cons_self ..)), split_lines c r (fun y hy => h y (List.mem_cons_of_mem _ hy))]
    rfl
/-! hexadecimal -/
theorem hexd_idx : ∀ a : Fin 16, idxP digs (hexd a.val) = ((a.val : Nat) : Int) := by decide
theorem hexd_ok : ∀ a : Fin 16, hexd a.val ≠ 10 ∧ hexd a.val ≠ 32 := by decide
theorem idxN_at (c : UInt8) : ∀ (l : List UInt8) (n : Nat), idxN c l = some n → l[n]? = some c
  | [], n, h => by simp [idxN] at h
  | b :: r, n, h => by
    unfold idxN at h
    split at h
    · rename_i hb
      simp at h hb; subst h; subst hb; rfl
    · cases hr : idxN c r with
      | none => rw [hr] at h; simp at h
      | some m => rw [hr] at h; simp at h; subst h; simpa using idxN_at c r m hr
theorem hexd_back {c : UInt8} (h : 0 ≤ idxP digs c) : hexd (idxP digs c).toNat = c := by
  unfold idxP at h ⊢
  cases hi : idxN c digs with
  | none => rw [hi] at h; simp at h
  | some n =>
    have := idxN_at c digs n hi
    simp only [Int.toNat_natCast]
    unfold hexd
    rw [this]; rfl
theorem hexP_at : ∀ (l : List Int) (j : Nat) (h : j < l.length), (hexP l)[2 * j]? = some (hexd (l[j].toNat / 16)) ∧ (hexP l)[2 * j + 1]? = some (hexd (l[j].toNat % 16))
  | x :: r, 0, h => by simp [hexP]
  | x :: r, j + 1, h => by
    have := hexP_at r j (by simpa using h)
    unfold hexP at this ⊢
    rw [List.flatMap_cons, show 2 * (j + 1) = 2 * j + 2 by omega, show 2 * j + 2 + 1 = (2 * j + 1) + 2 by omega]
    simpa using this
theorem hexP_good {d : S_api_Digest} (hd : okDig d) (j : Nat) (hj : j < 16) : good (hexP d.toL) j ∧ val (hexP d.toL) j = d.toL[j]'hj := by
  have h16 : d.toL.length = 16 := rfl
  obtain ⟨a1, a2⟩ := hexP_at d.toL j hj
  have hb := hd _ (List.getElem_mem hj)
  unfold good val chr
  rw [a1, a2]
  simp only [Option.getD_some]
  generalize d.toL[j]'hj = b at hb
  have q1 := hexd_idx ⟨b.toNat / 16, by omega⟩
  have q2 := hexd_idx ⟨b.toNat % 16, by omega⟩
  simp only at q1 q2
  rw [q1, q2]
  omega
theorem hexI_hexP {d : S_api_Digest} (hd : okDig d) : hexI (hexP d.toL) = d := by
  refine (hexI_eq ?_).symm
  apply List.ext_getElem
  · simp; rfl
  · intro j h1 h2
    simp only [List.getElem_map, List.getElem_range]
    exact ((hexP_good hd j (by simpa using h2)).2).symm
theorem hexI_toL (x : List UInt8) : (hexI x).toL = (List.range 16).map (val x) := S_api_Digest.ofL_toL _ _ (by simp)
theorem val_lt {x : List UInt8} {j : Nat} (h : good x j) : 0 ≤ val x j ∧ val x j < 256 := by
  have l1 := idxP_lt (chr x (2 * j)); have l2 := idxP_lt (chr x (2 * j + 1))
  unfold good at h
  unfold val
  omega
theorem okDig_hexI {x : List UInt8} (h : allgood x = true) : okDig (hexI x) := by
  intro b hb
  rw [hexI_toL] at hb
  obtain ⟨j, hj, rfl⟩ := List.mem_map.1 hb
  simp at hj
  exact val_lt (allgood_iff.1 h j hj)
theorem hexP_hexI {x : List UInt8} (hx : x.length = 32) (h : allgood x = true) : hexP (hexI x).toL = x := by
  rw [hexI_toL]
  have hlen : (hexP ((List.range 16).map (val x))).length = 32 := by rw [hexP_len]; simp
  apply List.ext_getElem?
  intro i
  by_cases hi : i < 32
  · have hj : i / 2 < 16 := by omega
    have hg := allgood_iff.1 h (i / 2) hj
    obtain ⟨a1, a2⟩ := hexP_at ((List.range 16).map (val x)) (i / 2) (by simpa using hj)
    simp only [List.getElem_map, List.getElem_range] at a1 a2
    have l2 := idxP_lt (chr x (2 * (i / 2) + 1))
    have hv : (val x (i / 2)).toNat / 16 = (idxP digs (chr x (2 * (i / 2)))).toNat ∧ (val x (i / 2)).toNat % 16 = (idxP digs (chr x (2 * (i / 2) + 1))).toNat := by
      unfold good at hg
      unfold val
      omega
    rw [hv.1, hexd_back hg.1] at a1
    rw [hv.2, hexd_back hg.2] at a2
    have hc : ∀ k, k < 32 → x[k]? = some (chr x k) := fun k hk => by unfold chr; rw [List.getElem?_eq_getElem (by omega)]; rfl
    rcases Nat.mod_two_eq_zero_or_one i with e | e
    · have e' : 2 * (i / 2) = i := by omega
      rw [e'] at a1
      rw [a1, hc i hi]
    · have e' : 2 * (i / 2) + 1 = i := by omega
      rw [e'] at a2
      rw [a2, hc i hi]
  · rw [List.getElem?_eq_none (by omega), List.getElem?_eq_none (by omega)]
/-! lines -/
theorem dig_ne {b : UInt8} (h : 48 ≤ b.toNat ∧ b.toNat ≤ 57) : b ≠ 10 ∧ b ≠ 32 := by
  constructor
  · rintro rfl; simp at h
  · rintro rfl; simp at h
theorem hexP_no (l : List Int) (hl : ∀ b ∈ l, 0 ≤ b ∧ b < 256) (b : UInt8) (h : b ∈ hexP l) : b ≠ 10 ∧ b ≠ 32 := by
  unfold hexP at h
  obtain ⟨a, ha, hb⟩ := List.mem_flatMap.1 h
  have := hl a ha
  simp at hb
  rcases hb with rfl | rfl
  · exact hexd_ok ⟨a.toNat / 16, by omega⟩
  · exact hexd_ok ⟨a.toNat % 16, by omega⟩
theorem segP_line {s : S_api_Segment} (h : okSeg s) (hd : okDig s.Body) : segP (lineP s) = some ⟨0, s.Begin, s.Len, s.Body, s.Size⟩ := by
  unfold okSeg at h
  have e : splitP 32 (lineP s) = [itoaP s.Begin, itoaP s.Len, itoaP s.Size, hexP s.Body.toL] := by
    unfold lineP
    rw [split_app 32 _ _ (fun q => (dig_ne (itoaP_dig (by omega) _ q)).2 rfl), split_app 32 _ _ (fun q => (dig_ne (itoaP_dig (by omega) _ q)).2 rfl), split_app 32 _ _ (fun q => (dig_ne (itoaP_dig (by omega) _ q)).2 rfl),
      split_one 32 _ (fun q => (hexP_no _ hd _ q).2 rfl)]
  unfold segP
  rw [e]
  simp only
  have h32 : (hexP s.Body.toL).length = 32 := by rw [hexP_len]; rfl
  rw [if_pos ⟨h32, allgood_iff.2 fun j hj => (hexP_good hd j hj).1⟩, numP_itoa (by omega) (by omega), numP_itoa (by omega) (by omega), numP_itoa (by omega) (by omega), hexI_hexP hd]
  rfl
theorem numP_back {s : List UInt8} {v : Int} (h : numP s = some v) : itoaP v = s := by
  unfold numP at h
  split at h
  · split at h
    · rename_i hk
      cases h; exact hk
    · cases h
  · cases h
theorem segP_back {x : List UInt8} {y : S_api_Segment} (h : segP x = some y) : lineP y = x ∧ y.Num = 0 ∧ okDig y.Body := by
  have hb := split_back 32 x
  unfold segP at h
  split at h
  · rename_i a b c d hs
    simp only [hs] at hb
    split at h
    · rename_i hk
      cases ha : numP a with
      | none => rw [ha] at h; simp at h
      | some va =>
        cases hb' : numP b with
        | none => rw [ha, hb'] at h; simp at h
        | some vb =>
          cases hc : numP c with
          | none => rw [ha, hb', hc] at h; simp at h
          | some vc =>
            rw [ha, hb', hc] at h
            simp at h
            subst h
            refine ⟨?_, rfl, okDig_hexI hk.2⟩
            unfold lineP
            simp only
            rw [numP_back ha, numP_back hb', numP_back hc, hexP_hexI hk.1 hk.2, ← hb]
            simp
    · cases h
  · cases h
end Go.Proofs.YtbgpojdmdnkeaaaDoor
namespace Go.Proofs.YtbgpojdmdnkeaaaDoor
open Go.Abs
set_option linter.unusedVariables false
set_option linter.unusedSimpArgs false
set_option maxRecDepth 20000
set_option maxHeartbeats 4000000

def law43_PlaylistReadsBack (n : Nat) (p_0 : S_api_Playlist) (s_1 : (List UInt8)) : Option (Bool) :=
 cond (decide (101 < (p_0.L.length : Int)) || decide (9000 < (s_1.length : Int)))
  (obind (law43_sanity n) fun r6 =>
  some r6)
  (obind (playlist_Text n p_0) fun r8 =>
  obind (playlist_Valid n p_0) fun r10 =>
  cond (!(r10 == (decide (r8.2 = 0))))
   (some false)
   (bindJ (S := Unit)
    (cond (decide (r8.2 = 0))
     (obind (playlist_Parse n r8.1) fun r18 =>
     bindJ (S := Bool)
      (cond (decide (r18.2 ≠ 0))
       (some (.go true))
       (obind (ref43_Same n r18.1 p_0) fun r29 =>
       some (.go (!r29))))
     (fun b23 =>
      cond b23
       (some (.stop false))
       (some (.go ()))))
     (some (.go ())))
   (fun _ =>
    obind (playlist_Parse n s_1) fun r32 =>
    cond (decide (r32.2 ≠ 0))
     (obind (law43_sanity n) fun r38 =>
     some ((r38 && decide (r32.2 = 3)) && decide ((r32.1.L.length : Int) = 0)))
     (obind (playlist_Text n r32.1) fun r46 =>
     obind (law43_sanity n) fun r48 =>
     some ((r48 && decide (r46.2 = 0)) && decide (r46.1 = s_1))))))
theorem law43_PlaylistReadsBack_ok (n : Nat) (p_0 : S_api_Playlist) (s_1 : (List UInt8)) (p_0_Lv : Value) {r : Bool} (h : law43_PlaylistReadsBack n p_0 s_1 = some r) :
  Meets Tryd.prog 4 [.agg #[.int .i64 p_0.First, p_0_Lv, .bool p_0.Done], .string (bs s_1)] [ro p_0_Lv 20 (p_0.L.map S_api_Segment.enc), globA] (fun v G => v = .bool r ∧ G = []) := by
 refine fn_of_run Tryd.func4 rfl Tryd.ntmps4 rfl (fun w0 o0 => ?_)
 refine run_seq ?_
 refine run_region' ?_
 refine ot rfl rfl (t_box rfl) ?_
 rintro _ _ ⟨b1, rfl, rfl⟩
 refine oy rfl rfl (y_assign rfl) ?_
 refine ops_nil ?_
 refine goes_code ?_
 refine run_seq ?_
 refine run_seq ?_
 refine run_region' ?_
 refine oy rfl rfl (y_fieldAddr_box (sz := 0) Tryd.runUnderlying27 rfl Tryd.sizeOf22 rfl) ?_
 refine oy rfl rfl (y_load_box 2 Tryd.isAgg22 rfl rfl rfl) ?_
 refine oy rfl rfl ((y_len 0 rfl Tryd.runUnderlying22 rfl rfl reads_ro).to (v_len S_api_Segment.enc _)) ?_
 refine oy rfl rfl (y_gtr rfl rfl) ?_
 refine oy rfl rfl (y_move rfl) ?_
 refine ops_cut 4 (Bool) (fun σ => [(1, .string (bs s_1)), (2, boxP b1 0), (21, .bool σ)]) (fun σ => [ro p_0_Lv 20 (p_0.L.map S_api_Segment.enc), globA, box b1 [.int .i64 p_0.First, p_0_Lv, .bool p_0.Done]]) (fun σ => σ = (decide (101 < (p_0.L.length : Int)) || decide (9000 < (s_1.length : Int)))) (fun L2 hL3 => ?_) ?_
 ·refine ops_split 17 (decide (101 < (p_0.L.length : Int))) rfl (fun hg4 => ?_) (fun hg4 => ?_)
  ·skip
   refine ops_no 4 false 17 rfl rfl rfl rfl rfl ?_
   refine ops_no 4 false 17 rfl rfl rfl rfl rfl ?_
   refine ops_no 4 false 17 rfl rfl rfl rfl rfl ?_
   refine oy rfl rfl (y_pick (b := true) rfl rfl) ?_
   refine ops_nil ?_
   exact goes_cut hL3 true [0, 1, 2] (qv3 rfl rfl rfl) (by decide) rfl (by rw [hg4]; simp)
  ·skip
   refine ops_y (wg 4 false 17 rfl rfl rfl rfl) rfl (y_move rfl) ?_
   refine ops_y (wg 4 false 17 rfl rfl rfl rfl) rfl (y_len_str rfl Tryd.runUnderlying9 rfl) ?_
   refine ops_y (wg 4 false 17 rfl rfl rfl rfl) rfl (y_gtr rfl rfl) ?_
   refine oy rfl rfl (y_pick (b := false) rfl rfl) ?_
   refine ops_nil ?_
   exact goes_cut hL3 (decide (9000 < (s_1.length : Int))) [0, 1, 2] (qv3 rfl rfl rfl) (by decide) rfl (by rw [hg4]; simp)
 rintro _ rfl
 refine ops_nil ?_
 refine goes_code ?_
 refine run_cond (decide (101 < (p_0.L.length : Int)) || decide (9000 < (s_1.length : Int))) rfl (fun hc5 => ?_) (fun hc5 => ?_)
 ·replace h := cond_t h hc5
  refine run_seq ?_
  refine run_region' ?_
  obtain ⟨r6, hr7, h⟩ := obind_some h
  refine ot rfl rfl (t_callx (vs := []) (cs := []) [(1, 0)] rfl Tryd.call8 rfl (law43_sanity_ok n   hr7) (showsX_view 1 rfl views_glob showsX_nil) rfl (.inl rfl)) ?_
  rintro _ _ ⟨_, ⟨rfl, rfl⟩, rfl⟩
  refine oy rfl rfl (y_assign rfl) ?_
  refine ops_nil ?_
  refine goes_code ?_
  refine run_ret ?_
  obtain rfl := some_eq h
  refine fin_slots [4] [.bool r6] [] [] Tryd.results4 rfl (by decide) rfl ?_
  exact ⟨rfl, rfl⟩
 ·replace h := cond_f h hc5
  refine run_skip ?_
  refine goes_code ?_
  refine run_seq ?_
  refine run_region' ?_
  refine oy rfl rfl (y_load_boxagg (c := [.int .i64 p_0.First, p_0_Lv, .bool p_0.Done]) 2 Tryd.isAgg27 Tryd.sizeOf27 rfl rfl rfl) ?_
  obtain ⟨r8, hr9, h⟩ := obind_some h
  refine ot rfl rfl (t_callx (vs := [.agg #[.int .i64 p_0.First, p_0_Lv, .bool p_0.Done]]) (cs := []) [(0, 0), (1, 0)] rfl Tryd.call14 rfl (playlist_Text_ok n p_0 p_0_Lv hr9) (showsX_view 0 rfl views_ro (showsX_view 1 rfl views_glob showsX_nil)) rfl (.inl rfl)) ?_
  rintro _ _ ⟨_, ⟨rfl, rfl⟩, rfl⟩
  refine oy rfl rfl (y_move rfl) ?_
  refine oy rfl rfl (y_extract rfl rfl) ?_
  refine oy rfl rfl (y_extract rfl rfl) ?_
  refine oy rfl rfl (y_assign rfl) ?_
  refine oy rfl rfl (y_assign rfl) ?_
  refine ops_nil ?_
  refine goes_code ?_
  refine run_seq ?_
  refine run_seq ?_
  refine run_region' ?_
  refine oy rfl rfl (y_load_boxagg (c := [.int .i64 p_0.First, p_0_Lv, .bool p_0.Done]) 2 Tryd.isAgg27 Tryd.sizeOf27 rfl rfl rfl) ?_
  obtain ⟨r10, hr11, h⟩ := obind_some h
  refine ot rfl rfl (t_callx (vs := [.agg #[.int .i64 p_0.First, p_0_Lv, .bool p_0.Done]]) (cs := []) [(0, 0)] rfl Tryd.call12 rfl (playlist_Valid_ok n p_0 p_0_Lv hr11) (showsX_view 0 rfl views_ro showsX_nil) rfl (.inl rfl)) ?_
  rintro _ _ ⟨_, ⟨rfl, rfl⟩, rfl⟩
  refine oy rfl rfl (y_move rfl) ?_
  refine oy rfl rfl (y_eql rfl rfl) ?_
  refine oy rfl rfl (y_bneq Tryd.runUnderlying4 rfl rfl) ?_
  refine ops_nil ?_
  refine goes_code ?_
  refine run_cond (!(r10 == (decide (r8.2 = 0)))) rfl (fun hc12 => ?_) (fun hc12 => ?_)
  ·replace h := cond_t h hc12
   refine run_seq ?_
   refine run_weak [] [1] [globA] vnil (by decide) rfl ?_
   refine run_region' ?_
   refine oy rfl rfl (y_assign rfl) ?_
   refine ops_nil ?_
   refine goes_code ?_
   refine run_ret ?_
   obtain rfl := some_eq h
   refine fin_slots [4] [.bool false] [] [] Tryd.results4 rfl (by decide) rfl ?_
   exact ⟨rfl, rfl⟩
  ·replace h := cond_f h hc12
   refine run_skip ?_
   refine goes_code ?_
   obtain ⟨o13, h, ho14⟩ := bindJ_some h
   refine run_cut ((Unit) × (Unit)) (fun σ => [(1, .string (bs s_1))]) (fun σ => [globA]) (fun σ => o13 = .go σ.1) (fun L16 hL15 => ?_) ?_
   ·
    refine run_seq ?_
    refine run_weak [(1, .string (bs s_1)), (2, boxP b1 0), (5, .string (bs r8.1)), (6, .int .i64 r8.2)] [0, 1, 2] [ro p_0_Lv 20 (p_0.L.map S_api_Segment.enc), globA, box b1 [.int .i64 p_0.First, p_0_Lv, .bool p_0.Done]] (qv4 rfl rfl rfl rfl) (by decide) rfl ?_
    refine run_region' ?_
    refine oy rfl rfl (y_move rfl) ?_
    refine oy rfl rfl (y_eql rfl rfl) ?_
    refine ops_nil ?_
    refine goes_code ?_
    refine run_cond (decide (r8.2 = 0)) rfl (fun hc17 => ?_) (fun hc17 => ?_)
    ·replace h := cond_t h hc17
     refine run_seq ?_
     refine run_region' ?_
     refine oy rfl rfl (y_move rfl) ?_
     obtain ⟨r18, hr19, h⟩ := obind_some h
     refine ot rfl rfl (t_callx (vs := [.string (bs r8.1)]) (cs := []) [(1, 0)] rfl Tryd.call15 rfl (playlist_Parse_ok n r8.1  hr19) (showsX_view 1 rfl views_glob showsX_nil) rfl (.inl rfl)) ?_
     rintro _ _ ⟨_, ⟨v20, rfl, rfl⟩, rfl⟩
     refine oy rfl rfl (y_move rfl) ?_
     refine oy rfl rfl (y_extract rfl rfl) ?_
     refine oy rfl rfl (y_extract rfl rfl) ?_
     refine ot rfl rfl (t_alloc Tryd.zeroValue27) ?_
     rintro _ _ ⟨b21, rfl, rfl⟩
     refine ops_slc 3 rfl reads_row (fun hs22 hs22o => ?_)
     refine ot rfl rfl (t_store 4 Tryd.sizeOf27 rfl rfl rfl rfl (by simp [Value.cells, boxP]) (allL_cons rfl (allL_cons hs22o (allL_cons rfl (allL_nil))))) ?_
     rintro _ _ ⟨rfl, rfl⟩
     refine ops_turn (retell 4 (g := box b21 [.int .i64 r18.1.First, v20, .bool r18.1.Done]) rfl rfl) ?_
     refine oy rfl rfl (y_assign rfl) ?_
     refine ops_nil ?_
     refine goes_code ?_
     refine run_seq ?_
     refine run_weak [(1, .string (bs s_1)), (2, boxP b1 0), (7, boxP b21 0), (8, .int .i64 r18.2)] [0, 1, 2, 3, 4] [ro p_0_Lv 20 (p_0.L.map S_api_Segment.enc), globA, box b1 [.int .i64 p_0.First, p_0_Lv, .bool p_0.Done], row v20 20 (r18.1.L.map S_api_Segment.enc), box b21 [.int .i64 r18.1.First, v20, .bool r18.1.Done]] (qv4 rfl rfl rfl rfl) (by decide) rfl ?_
     refine run_region' ?_
     refine oy rfl rfl (y_move rfl) ?_
     refine oy rfl rfl (y_neq rfl rfl) ?_
     refine oy rfl rfl (y_move rfl) ?_
     obtain ⟨o24, h, ho25⟩ := bindJ_some h
     refine ops_cut 5 (Bool) (fun σ => [(1, .string (bs s_1)), (47, .bool σ)]) (fun σ => [globA]) (fun σ => o24 = .go σ) (fun L26 hL27 => ?_) ?_
     ·refine ops_split 42 (decide (r18.2 ≠ 0)) rfl (fun hg28 => ?_) (fun hg28 => ?_)
      ·replace h := cond_t h hg28
       refine ops_no 2 false 42 rfl rfl rfl rfl rfl ?_
       refine ops_no 2 false 42 rfl rfl rfl rfl rfl ?_
       refine ops_no 2 false 42 rfl rfl rfl rfl rfl ?_
       refine ops_no 2 false 42 rfl rfl rfl rfl rfl ?_
       refine oy rfl rfl (y_pick (b := true) rfl rfl) ?_
       refine ops_nil ?_
       obtain rfl := some_eq h
       exact goes_cut hL27 true [1] (qv2 rfl rfl) (by decide) rfl rfl
      ·replace h := cond_f h hg28
       refine ops_y (wg 2 false 42 rfl rfl rfl rfl) rfl (y_load_boxagg (c := [.int .i64 r18.1.First, v20, .bool r18.1.Done]) 4 Tryd.isAgg27 Tryd.sizeOf27 rfl rfl rfl) ?_
       refine ops_y (wg 2 false 42 rfl rfl rfl rfl) rfl (y_load_boxagg (c := [.int .i64 p_0.First, p_0_Lv, .bool p_0.Done]) 2 Tryd.isAgg27 Tryd.sizeOf27 rfl rfl rfl) ?_
       obtain ⟨r29, hr30, h⟩ := obind_some h
       refine ops_t (wg 2 false 42 rfl rfl rfl rfl) rfl (t_callx (vs := [.agg #[.int .i64 r18.1.First, v20, .bool r18.1.Done], .agg #[.int .i64 p_0.First, p_0_Lv, .bool p_0.Done]]) (cs := []) [(3, 1), (0, 0)] rfl Tryd.call11 rfl (ref43_Same_ok n r18.1 p_0 v20 p_0_Lv hr30) (showsX_look 3 rfl views_row (showsX_view 0 rfl views_ro showsX_nil)) rfl (.inr (by rintro _ _ ⟨rfl, rfl⟩ g hg; first | (cases hg; done) | (simp only [List.mem_cons, List.not_mem_nil, or_false] at hg; first | (subst hg; first | exact strict_row | exact strict_box) | (rcases hg with rfl | rfl <;> first | exact strict_row | exact strict_box) | (rcases hg with rfl | rfl | rfl <;> first | exact strict_row | exact strict_box))))) ?_
       rintro _ _ ⟨_, ⟨rfl, rfl⟩, rfl⟩
       refine ops_y (wg 2 false 42 rfl rfl rfl rfl) rfl (y_not rfl) ?_
       refine oy rfl rfl (y_pick (b := false) rfl rfl) ?_
       refine ops_nil ?_
       obtain rfl := some_eq h
       exact goes_cut hL27 (!r29) [1] (qv2 rfl rfl) (by decide) rfl rfl
     rintro b23 hj
     obtain rfl : o24 = _ := hj
     replace h := after_go ho25
     clear ho25
     refine ops_nil ?_
     refine goes_code ?_
     refine run_cond b23 rfl (fun hc31 => ?_) (fun hc31 => ?_)
     ·replace h := cond_t h hc31
      refine run_seq ?_
      refine run_region' ?_
      refine oy rfl rfl (y_assign rfl) ?_
      refine ops_nil ?_
      refine goes_code ?_
      refine run_ret ?_
      obtain rfl := some_eq h
      obtain rfl := after_stop ho14
      refine fin_slots [4] [.bool false] [] [] Tryd.results4 rfl (by decide) rfl ?_
      exact ⟨rfl, rfl⟩
     ·replace h := cond_f h hc31
      refine run_skip ?_
      obtain rfl := some_eq h
      exact goes_cut hL15 ((), ()) [0] (qv1 rfl) (by decide) rfl rfl
    ·replace h := cond_f h hc17
     refine run_skip ?_
     obtain rfl := some_eq h
     exact goes_cut hL15 ((), ()) [1] (qv1 rfl) (by decide) rfl rfl
   rintro ⟨_, _⟩ hj
   obtain rfl : o13 = _ := hj
   replace h := after_go ho14
   clear ho14
   change Run _ _ _ (VF.of [(1, .string (bs s_1))]) [globA]
   refine run_seq ?_
   refine run_region' ?_
   refine oy rfl rfl (y_move rfl) ?_
   obtain ⟨r32, hr33, h⟩ := obind_some h
   refine ot rfl rfl (t_callx (vs := [.string (bs s_1)]) (cs := []) [(0, 0)] rfl Tryd.call15 rfl (playlist_Parse_ok n s_1  hr33) (showsX_view 0 rfl views_glob showsX_nil) rfl (.inl rfl)) ?_
   rintro _ _ ⟨_, ⟨v34, rfl, rfl⟩, rfl⟩
   refine oy rfl rfl (y_move rfl) ?_
   refine oy rfl rfl (y_extract rfl rfl) ?_
   refine oy rfl rfl (y_extract rfl rfl) ?_
   refine ot rfl rfl (t_alloc Tryd.zeroValue27) ?_
   rintro _ _ ⟨b35, rfl, rfl⟩
   refine ops_slc 1 rfl reads_row (fun hs36 hs36o => ?_)
   refine ot rfl rfl (t_store 2 Tryd.sizeOf27 rfl rfl rfl rfl (by simp [Value.cells, boxP]) (allL_cons rfl (allL_cons hs36o (allL_cons rfl (allL_nil))))) ?_
   rintro _ _ ⟨rfl, rfl⟩
   refine ops_turn (retell 2 (g := box b35 [.int .i64 r32.1.First, v34, .bool r32.1.Done]) rfl rfl) ?_
   refine oy rfl rfl (y_assign rfl) ?_
   refine ops_nil ?_
   refine goes_code ?_
   refine run_seq ?_
   refine run_seq ?_
   refine run_weak [(1, .string (bs s_1)), (9, boxP b35 0), (10, .int .i64 r32.2)] [0, 1, 2] [globA, row v34 20 (r32.1.L.map S_api_Segment.enc), box b35 [.int .i64 r32.1.First, v34, .bool r32.1.Done]] (qv3 rfl rfl rfl) (by decide) rfl ?_
   refine run_region' ?_
   refine oy rfl rfl (y_move rfl) ?_
   refine oy rfl rfl (y_neq rfl rfl) ?_
   refine ops_nil ?_
   refine goes_code ?_
   refine run_cond (decide (r32.2 ≠ 0)) rfl (fun hc37 => ?_) (fun hc37 => ?_)
   ·replace h := cond_t h hc37
    refine run_seq ?_
    refine run_region' ?_
    obtain ⟨r38, hr39, h⟩ := obind_some h
    refine ot rfl rfl (t_callx (vs := []) (cs := []) [(0, 0)] rfl Tryd.call8 rfl (law43_sanity_ok n   hr39) (showsX_view 0 rfl views_glob showsX_nil) rfl (.inl rfl)) ?_
    rintro _ _ ⟨_, ⟨rfl, rfl⟩, rfl⟩
    refine oy rfl rfl (y_move rfl) ?_
    refine ops_cut 3 (Bool) (fun σ => [(9, boxP b35 0), (59, .bool σ)]) (fun σ => [globA, row v34 20 (r32.1.L.map S_api_Segment.enc), box b35 [.int .i64 r32.1.First, v34, .bool r32.1.Done]]) (fun σ => σ = (r38 && decide (r32.2 = 3))) (fun L40 hL41 => ?_) ?_
    ·refine ops_split 56 r38 rfl (fun hg42 => ?_) (fun hg42 => ?_)
     ·skip
      refine ops_y (wg 1 true 56 rfl rfl rfl rfl) rfl (y_move rfl) ?_
      refine ops_y (wg 1 true 56 rfl rfl rfl rfl) rfl (y_eql rfl rfl) ?_
      refine oy rfl rfl (y_pick (b := true) rfl rfl) ?_
      refine ops_nil ?_
      exact goes_cut hL41 (decide (r32.2 = 3)) [0, 1, 2] (qv2 rfl rfl) (by decide) rfl (by rw [hg42]; simp)
     ·skip
      refine ops_no 1 true 56 rfl rfl rfl rfl rfl ?_
      refine ops_no 1 true 56 rfl rfl rfl rfl rfl ?_
      refine oy rfl rfl (y_pick (b := false) rfl rfl) ?_
      refine ops_nil ?_
      exact goes_cut hL41 false [0, 1, 2] (qv2 rfl rfl) (by decide) rfl (by rw [hg42]; simp)
    rintro _ rfl
    refine oy rfl rfl (y_move rfl) ?_
    refine ops_cut 5 (Bool) (fun σ => [(65, .bool σ)]) (fun σ => [globA]) (fun σ => σ = ((r38 && decide (r32.2 = 3)) && decide ((r32.1.L.length : Int) = 0))) (fun L43 hL44 => ?_) ?_
    ·refine ops_split 60 (r38 && decide (r32.2 = 3)) rfl (fun hg45 => ?_) (fun hg45 => ?_)
     ·skip
      refine ops_y (wg 5 true 60 rfl rfl rfl rfl) rfl (y_fieldAddr_box (sz := 0) Tryd.runUnderlying27 rfl Tryd.sizeOf22 rfl) ?_
      refine ops_y (wg 5 true 60 rfl rfl rfl rfl) rfl (y_load_box 2 Tryd.isAgg22 rfl rfl rfl) ?_
      refine ops_y (wg 5 true 60 rfl rfl rfl rfl) rfl ((y_len 1 rfl Tryd.runUnderlying22 rfl rfl reads_row).to (v_len S_api_Segment.enc _)) ?_
      refine ops_y (wg 5 true 60 rfl rfl rfl rfl) rfl (y_eql rfl rfl) ?_
      refine oy rfl rfl (y_pick (b := true) rfl rfl) ?_
      refine ops_nil ?_
      exact goes_cut hL44 (decide ((r32.1.L.length : Int) = 0)) [0] (qv1 rfl) (by decide) rfl (by rw [hg45]; simp)
     ·skip
      refine ops_no 5 true 60 rfl rfl rfl rfl rfl ?_
      refine ops_no 5 true 60 rfl rfl rfl rfl rfl ?_
      refine ops_no 5 true 60 rfl rfl rfl rfl rfl ?_
      refine ops_no 5 true 60 rfl rfl rfl rfl rfl ?_
      refine oy rfl rfl (y_pick (b := false) rfl rfl) ?_
      refine ops_nil ?_
      exact goes_cut hL44 false [0] (qv1 rfl) (by decide) rfl (by rw [hg45]; simp)
    rintro _ rfl
    refine oy rfl rfl (y_assign rfl) ?_
    refine ops_nil ?_
    refine goes_code ?_
    refine run_ret ?_
    obtain rfl := some_eq h
    refine fin_slots [4] [.bool ((r38 && decide (r32.2 = 3)) && decide ((r32.1.L.length : Int) = 0))] [] [] Tryd.results4 rfl (by decide) rfl ?_
    exact ⟨rfl, rfl⟩
   ·replace h := cond_f h hc37
    refine run_skip ?_
    refine goes_code ?_
    refine run_seq ?_
    refine run_region' ?_
    refine oy rfl rfl (y_load_boxagg (c := [.int .i64 r32.1.First, v34, .bool r32.1.Done]) 2 Tryd.isAgg27 Tryd.sizeOf27 rfl rfl rfl) ?_
    obtain ⟨r46, hr47, h⟩ := obind_some h
    refine ot rfl rfl (t_callx (vs := [.agg #[.int .i64 r32.1.First, v34, .bool r32.1.Done]]) (cs := []) [(1, 1), (0, 0)] rfl Tryd.call14 rfl (playlist_Text_ok n r32.1 v34 hr47) (showsX_look 1 rfl views_row (showsX_view 0 rfl views_glob showsX_nil)) rfl (.inr (by rintro _ _ ⟨rfl, rfl⟩ g hg; first | (cases hg; done) | (simp only [List.mem_cons, List.not_mem_nil, or_false] at hg; first | (subst hg; first | exact strict_row | exact strict_box) | (rcases hg with rfl | rfl <;> first | exact strict_row | exact strict_box) | (rcases hg with rfl | rfl | rfl <;> first | exact strict_row | exact strict_box))))) ?_
    rintro _ _ ⟨_, ⟨rfl, rfl⟩, rfl⟩
    refine oy rfl rfl (y_move rfl) ?_
    refine oy rfl rfl (y_extract rfl rfl) ?_
    refine oy rfl rfl (y_extract rfl rfl) ?_
    refine oy rfl rfl (y_assign rfl) ?_
    refine oy rfl rfl (y_assign rfl) ?_
    refine ops_nil ?_
    refine goes_code ?_
    refine run_seq ?_
    refine run_weak [(1, .string (bs s_1)), (11, .string (bs r46.1)), (12, .int .i64 r46.2)] [0] [globA] (qv3 rfl rfl rfl) (by decide) rfl ?_
    refine run_region' ?_
    obtain ⟨r48, hr49, h⟩ := obind_some h
    refine ot rfl rfl (t_callx (vs := []) (cs := []) [(0, 0)] rfl Tryd.call8 rfl (law43_sanity_ok n   hr49) (showsX_view 0 rfl views_glob showsX_nil) rfl (.inl rfl)) ?_
    rintro _ _ ⟨_, ⟨rfl, rfl⟩, rfl⟩
    refine oy rfl rfl (y_move rfl) ?_
    refine ops_cut 3 (Bool) (fun σ => [(1, .string (bs s_1)), (11, .string (bs r46.1)), (75, .bool σ)]) (fun σ => [globA]) (fun σ => σ = (r48 && decide (r46.2 = 0))) (fun L50 hL51 => ?_) ?_
    ·refine ops_split 72 r48 rfl (fun hg52 => ?_) (fun hg52 => ?_)
     ·skip
      refine ops_y (wg 1 true 72 rfl rfl rfl rfl) rfl (y_move rfl) ?_
      refine ops_y (wg 1 true 72 rfl rfl rfl rfl) rfl (y_eql rfl rfl) ?_
      refine oy rfl rfl (y_pick (b := true) rfl rfl) ?_
      refine ops_nil ?_
      exact goes_cut hL51 (decide (r46.2 = 0)) [0] (qv3 rfl rfl rfl) (by decide) rfl (by rw [hg52]; simp)
     ·skip
      refine ops_no 1 true 72 rfl rfl rfl rfl rfl ?_
      refine ops_no 1 true 72 rfl rfl rfl rfl rfl ?_
      refine oy rfl rfl (y_pick (b := false) rfl rfl) ?_
      refine ops_nil ?_
      exact goes_cut hL51 false [0] (qv3 rfl rfl rfl) (by decide) rfl (by rw [hg52]; simp)
    rintro _ rfl
    refine oy rfl rfl (y_move rfl) ?_
    refine ops_cut 4 (Bool) (fun σ => [(80, .bool σ)]) (fun σ => [globA]) (fun σ => σ = ((r48 && decide (r46.2 = 0)) && decide (r46.1 = s_1))) (fun L53 hL54 => ?_) ?_
    ·refine ops_split 76 (r48 && decide (r46.2 = 0)) rfl (fun hg55 => ?_) (fun hg55 => ?_)
     ·skip
      refine ops_y (wg 5 true 76 rfl rfl rfl rfl) rfl (y_move rfl) ?_
      refine ops_y (wg 5 true 76 rfl rfl rfl rfl) rfl (y_move rfl) ?_
      refine ops_y (wg 5 true 76 rfl rfl rfl rfl) rfl (y_seql rfl rfl) ?_
      refine oy rfl rfl (y_pick (b := true) rfl rfl) ?_
      refine ops_nil ?_
      exact goes_cut hL54 (decide (r46.1 = s_1)) [0] (qv1 rfl) (by decide) rfl (by rw [hg55]; simp)
     ·skip
      refine ops_no 5 true 76 rfl rfl rfl rfl rfl ?_
      refine ops_no 5 true 76 rfl rfl rfl rfl rfl ?_
      refine ops_no 5 true 76 rfl rfl rfl rfl rfl ?_
      refine oy rfl rfl (y_pick (b := false) rfl rfl) ?_
      refine ops_nil ?_
      exact goes_cut hL54 false [0] (qv1 rfl) (by decide) rfl (by rw [hg55]; simp)
    rintro _ rfl
    refine oy rfl rfl (y_assign rfl) ?_
    refine ops_nil ?_
    refine goes_code ?_
    refine run_ret ?_
    obtain rfl := some_eq h
    refine fin_slots [4] [.bool ((r48 && decide (r46.2 = 0)) && decide (r46.1 = s_1))] [] [] Tryd.results4 rfl (by decide) rfl ?_
    exact ⟨rfl, rfl⟩

end Go.Proofs.YtbgpojdmdnkeaaaDoor
namespace Go.Proofs.YtbgpojdmdnkeaaaDoor
open Go.Abs
set_option linter.unusedSimpArgs false
set_option linter.unusedVariables false
open Classical in
theorem parse_eq (s : List UInt8) (hs : s.length ≤ 65536) (n : Nat) (hn : 70000 < n) : playlist_Parse n s = some (match parseP s with | some p => (p, 0) | none => (⟨0, [], false⟩, 3)) := by
  have hm := fun x hx => Nat.le_trans (split_mem 10 s x hx) hs
  have hlen := Nat.le_trans (splitP_len 10 s) (Nat.add_le_add_right hs 1)
  have hne := splitP_ne 10 s
  unfold playlist_Parse splitH parseP
  have e0 : decide ((65536 : Int) < (s.length : Int)) = false := decide_eq_false (by omega)
  simp only [e0, cond_false]
  rw [need_pos (by omega)]
  simp only [obind, Option.bind_some]
  generalize splitP 10 s = l at hm hlen hne
  have hpos := List.length_pos_iff.2 hne
  rw [idx_last (by omega) hne]
  simp only [List.getLast?_eq_some_getLast hne, take_len l (by omega) hpos, Option.some.injEq]
  by_cases hl : l.getLast hne = []
  · simp only [hl, decide_true, playlist_must, Bool.not_true, cond_false, Option.bind_some, pbind, if_true]
    rw [need_pos (by rw [w64 (by omega) (by omega)]; omega)]
    have hm' : ∀ x ∈ l.dropLast, x.length ≤ 65536 := fun x hx => hm x (List.dropLast_subset _ hx)
    have hlen' : l.dropLast.length ≤ 65536 := by simp; omega
    generalize l.dropLast = d at hm' hlen'
    cases d with
    | nil => rfl
    | cons h t =>
      have e1 : decide ((0 : Int) < ((h :: t).length : Int)) = true := decide_eq_true (by simp)
      have hh := hm' h (List.mem_cons_self ..)
      simp only [e1, Bool.not_true, cond_false, Option.bind_some, pbind]
      have i0 : ∀ (k : List UInt8 → Option (S_api_Playlist × Int)), idx (h :: t) 0 k = k h := fun k => rfl
      rw [i0, cut_eq h (by omega)]
      by_cases hp : h.take 5 = [108, 105, 118, 101, 32]
      · simp only [hp, if_true, Option.bind_some, Bool.not_true, cond_false, pbind]
        rw [number_eq _ (by simp; omega)]
        simp only [Option.bind_some]
        cases hn : numP (h.drop 5) with
        | none => rfl
        | some first =>
          simp only [toPn, pbind, Option.bind_some]
          rw [need_pos (by simp; omega)]
          have ht : (h :: t).drop ((1 : Int).toNat) = t := rfl
          simp only [ht]
          have key : (bindJ (S := Bool) (R := Lp (List (List UInt8) × Bool) (S_api_Playlist × Int))
              (cond (decide (0 < (t.length : Int))) (idx t (IntKind.i64.wrap ((t.length : Int) - 1)) fun x42 => some (.go (decide (x42 = [100, 111, 110, 101])))) (some (.go false)))
              (fun b36 => cond b36 (need (0 ≤ (0 : Int) ∧ 0 ≤ (IntKind.i64.wrap ((t.length : Int) - 1)) ∧ (IntKind.i64.wrap ((t.length : Int) - 1)) ≤ (t.length : Int)) (some (.go ((t.take (((IntKind.i64.wrap ((t.length : Int) - 1))).toNat)), true)))) (some (.go (t, false))))) = some (.go (endsP t)) := by
            have htl : t.length ≤ 65535 := by simp at hlen'; omega
            unfold endsP
            by_cases h0 : t = []
            · subst h0; rfl
            · have hp0 := List.length_pos_iff.2 h0
              have e2 : decide ((0 : Int) < (t.length : Int)) = true := decide_eq_true (by omega)
              simp only [e2, cond_true]
              rw [idx_last (by omega) h0, List.getLast?_eq_some_getLast h0]
              simp only [Option.some.injEq, bindJ_go]
              by_cases hd : t.getLast h0 = [100, 111, 110, 101]
              · simp only [hd, decide_true, cond_true, if_true]
                rw [need_pos (by rw [w64 (by omega) (by omega)]; omega), take_len t (by omega) hp0]
              · simp only [hd, decide_false, cond_false, if_false]
          rw [key]
          have hE : (endsP t).1.length ≤ 65536 ∧ ∀ x ∈ (endsP t).1, x.length ≤ 65536 := by
            unfold endsP
            split
            · exact ⟨by simp at hlen' ⊢; omega, fun x hx => hm' x (List.mem_cons_of_mem _ (List.dropLast_subset _ hx))⟩
            · exact ⟨by simp at hlen' ⊢; omega, fun x hx => hm' x (List.mem_cons_of_mem _ hx)⟩
          generalize endsP t = q at hE
          obtain ⟨q1, q2⟩ := q
          obtain ⟨hq1, hq2⟩ := hE
          simp only at hq1 hq2
          simp only [bindJ_go]
          rw [parse_loop first q1 (by omega) (fun x hx => by have := hq2 x hx; omega) n (by omega) (by omega)]
          cases segsP first 0 q1 with
          | none => rfl
          | some r =>
            simp only [bindJ_go, Option.bind_some]
            rw [valid_eq _ n (by omega)]
            simp only [Option.bind_some]
            by_cases hv : VP ⟨first, r, q2⟩
            · simp only [hv, decide_true, Bool.not_true, cond_false, Option.bind_some, pbind, if_true]
            · simp only [hv, decide_false, Bool.not_false, cond_true, Option.bind_some, pbind, if_false]
      · simp only [hp, if_false, Option.bind_some, Bool.not_false, cond_true, pbind]
  · simp only [hl, decide_false, playlist_must, Bool.not_false, cond_true, Option.bind_some, pbind, if_false]
theorem num_at {p : S_api_Playlist} (h : VP p) : ∀ (k : Nat) (hk : k < p.L.length), p.L[k].Num = p.First + k
  | 0, hk => by simpa using h.2.2.2.1 hk
  | k + 1, hk => by
    have := num_at h k (by omega)
    have := (h.2.2.2.2.2 k hk).1
    omega
theorem segsP_lines (first : Int) (h0 : 0 ≤ first) (h1 : first ≤ 1099511627776) : ∀ (l : List S_api_Segment) (i : Nat), i + l.length ≤ 1000000 → (∀ k (h : k < l.length), okSeg l[k] ∧ okDig l[k].Body ∧ l[k].Num = first + ((i + k : Nat) : Int)) → segsP first i (l.map lineP) = some l
  | [], i, _, _ => rfl
  | s :: r, i, hl, h => by
    obtain ⟨a, b, c⟩ := h 0 (by simp)
    simp only [List.getElem_cons_zero] at a b c
    rw [List.map_cons, segsP, segP_line a b, segsP_lines first h0 h1 r (i + 1) (by simp at hl; omega) (fun k hk => by
      have := h (k + 1) (by simpa using hk)
      simp only [List.getElem_cons_succ] at this
      rw [show i + 1 + k = i + (k + 1) by omega]
      exact this)]
    simp at hl
    simp only [Option.bind_some, Option.map_some]
    rw [w64 (by omega) (by omega)]
    congr 2
    cases s
    simp at c ⊢
    omega
theorem segsP_back (first : Int) : ∀ (l : List (List UInt8)) (i : Nat) (q : List S_api_Segment), segsP first i l = some q → q.map lineP = l ∧ ∀ y ∈ q, okDig y.Body
  | [], i, q, h => by simp [segsP] at h; subst h; simp
  | x :: r, i, q, h => by
    unfold segsP at h
    cases hx : segP x with
    | none => rw [hx] at h; simp at h
    | some y =>
      cases hr : segsP first (i + 1) r with
      | none => rw [hx, hr] at h; simp at h
      | some q' =>
        rw [hx, hr] at h
        simp at h
        subst h
        obtain ⟨a, b, c⟩ := segP_back hx
        obtain ⟨d, e⟩ := segsP_back first r (i + 1) q' hr
        refine ⟨?_, ?_⟩
        · rw [List.map_cons, d]
          congr 1
        · intro z hz
          rcases List.mem_cons.1 hz with rfl | hz
          · exact c
          · exact e z hz
theorem line_no {s : S_api_Segment} (h : okSeg s) (hd : okDig s.Body) (b : UInt8) (hb : b ∈ lineP s) : b ≠ 10 := by
  unfold okSeg at h
  unfold lineP at hb
  have d1 := fun q => (dig_ne (itoaP_dig (v := s.Begin) (by omega) b q)).1
  have d2 := fun q => (dig_ne (itoaP_dig (v := s.Len) (by omega) b q)).1
  have d3 := fun q => (dig_ne (itoaP_dig (v := s.Size) (by omega) b q)).1
  have d4 := fun q => (hexP_no s.Body.toL hd b q).1
  simp only [List.mem_append, List.mem_cons] at hb
  rcases hb with h | rfl | h | rfl | h | rfl | h
  · exact d1 h
  · decide
  · exact d2 h
  · decide
  · exact d3 h
  · decide
  · exact d4 h
theorem lines_no {p : S_api_Playlist} (hp : VP p) (hd : ∀ s ∈ p.L, okDig s.Body) : ∀ x ∈ linesP p, (10 : UInt8) ∉ x := by
  intro x hx hb
  unfold linesP at hx
  rcases List.mem_cons.1 hx with rfl | hx
  · unfold headP at hb
    rcases List.mem_append.1 hb with h | h
    · revert h; decide
    · exact (dig_ne (itoaP_dig hp.1 _ h)).1 rfl
  · rcases List.mem_append.1 hx with h | h
    · obtain ⟨s, hs, rfl⟩ := List.mem_map.1 h
      obtain ⟨i, hi, rfl⟩ := List.getElem_of_mem hs
      exact line_no (hp.2.2.2.2.1 i hi) (hd _ hs) _ hb rfl
    · split at h
      · simp at h; subst h; revert hb; decide
      · simp at h
theorem line_long (s : S_api_Segment) : 32 < (lineP s).length := by
  unfold lineP
  have h4 := hexP_len s.Body.toL
  have h5 : s.Body.toL.length = 16 := rfl
  simp; omega
theorem parse_text {p : S_api_Playlist} (hp : VP p) (hd : ∀ s ∈ p.L, okDig s.Body) : parseP (textP p) = some p := by
  have hs : splitP 10 (textP p) = linesP p ++ [[]] := split_lines 10 _ (lines_no hp hd)
  unfold parseP
  simp only [hs, List.getLast?_concat, if_true, List.dropLast_concat]
  unfold linesP
  simp only
  have h1 : (headP p).take 5 = [108, 105, 118, 101, 32] := rfl
  have h2 : (headP p).drop 5 = itoaP p.First := rfl
  have hb1 := hp.1
  have hb2 := hp.2.1
  have hL := hp.2.2.1
  rw [if_pos h1, h2, numP_itoa (by omega) (by omega)]
  have he : endsP (p.L.map lineP ++ if p.Done then [[100, 111, 110, 101]] else []) = (p.L.map lineP, p.Done) := by
    unfold endsP
    cases hD : p.Done with
    | true => simp only [if_true, List.getLast?_concat, List.dropLast_concat]
    | false =>
      simp only [Bool.false_eq_true, if_false, List.append_nil]
      rw [if_neg]
      intro h
      obtain ⟨s, hs, e⟩ := List.mem_map.1 (List.mem_of_getLast? h)
      have := line_long s
      rw [e] at this
      simp at this
  simp only [Option.bind_some, he]
  rw [segsP_lines p.First hb1 hb2 p.L 0 (by omega) (fun k hk => ⟨hp.2.2.2.2.1 k hk, hd _ (List.getElem_mem hk), by rw [num_at hp k hk]; simp⟩)]
  have hp' : VP ⟨p.First, p.L, p.Done⟩ := hp
  simp only [Option.bind_some]
  rw [he, if_pos hp']
theorem text_parse {s : List UInt8} {p : S_api_Playlist} (h : parseP s = some p) : VP p ∧ (∀ y ∈ p.L, okDig y.Body) ∧ textP p = s := by
  have hb := split_back 10 s
  unfold parseP at h
  simp only at h
  split at h
  · rename_i hl
    have hne := splitP_ne 10 s
    rw [List.getLast?_eq_some_getLast hne] at hl
    have hl' := Option.some.inj hl
    rw [hl', List.append_nil] at hb
    split at h
    · cases h
    · rename_i hd t he
      rw [he] at hb
      split at h
      · rename_i h5
        cases hn : numP (hd.drop 5) with
        | none => rw [hn] at h; simp at h
        | some first =>
          rw [hn] at h
          simp only [Option.bind_some] at h
          cases hq : segsP first 0 (endsP t).1 with
          | none => rw [hq] at h; simp at h
          | some q =>
            rw [hq] at h
            simp only [Option.bind_some] at h
            split at h
            · rename_i hv
              cases h
              obtain ⟨a, b⟩ := segsP_back first _ 0 q hq
              refine ⟨hv, b, ?_⟩
              unfold textP
              rw [← hb]
              congr 1
              unfold linesP headP
              simp only
              rw [a, numP_back hn, ← h5, List.take_append_drop]
              congr 1
              unfold endsP
              split
              · rename_i hg
                simp only [if_true]
                have h0 : t ≠ [] := fun e => by subst e; simp at hg
                rw [List.getLast?_eq_some_getLast h0] at hg
                rw [← Option.some.inj hg, List.dropLast_concat_getLast]
              · simp
            · cases h
      · cases h
  · cases h
theorem same_refl (p : S_api_Playlist) (hl : p.L.length ≤ 4294967296) (n : Nat) (hn : p.L.length < n) : ref43_Same n p p = some true := by
  unfold ref43_Same
  have e : ((decide (p.First ≠ p.First) || (!(p.Done == p.Done))) || decide ((p.L.length : Int) ≠ (p.L.length : Int))) = false := by simp
  rw [e, cond_false]
  rw [iter_allgo (step := ref43_Same_L1 p p) p.L.length (.go ()) (fun i hi => by
    unfold ref43_Same_L1
    have e : decide ((i : Int) < (p.L.length : Int)) = true := by simpa using hi
    rw [e, cond_true, idx_get' hi, idx_get' hi]
    simp only [decide_true, Bool.and_true, Bool.not_true, cond_false]
    rw [w64 (by omega) (by omega)]; rfl) (by unfold ref43_Same_L1; simp) n hn]
  rfl
theorem textP_len {p : S_api_Playlist} (hp : VP p) : (textP p).length ≤ 65536 := by
  have hL := hp.2.2.1
  have gen : ∀ l : List S_api_Segment, ((l.map lineP).flatMap fun x => x ++ [10]).length ≤ 99 * l.length := by
    intro l
    induction l with
    | nil => simp
    | cons s r ih =>
      have := lineP_len s
      rw [List.map_cons, List.flatMap_cons, List.length_append, List.length_append]
      simp only [List.length_cons, List.length_nil]
      omega
  have := gen p.L
  have h1 := itoaP_len p.First
  unfold textP linesP headP
  rw [List.flatMap_cons, List.flatMap_append]
  simp only [List.length_append]
  have : (((if p.Done then [[100, 111, 110, 101]] else [] : List (List UInt8)).flatMap fun x => x ++ [10])).length ≤ 5 := by
    cases p.Done <;> simp
  simp only [List.length_cons, List.length_nil]
  omega
open Classical in
theorem law4_of (p : S_api_Playlist) (s : List UInt8) (hd : ∀ x ∈ p.L, okDig x.Body) : ∃ m, law43_PlaylistReadsBack m p s = some true := by
  refine ⟨100000, ?_⟩
  have hs := sane 99960
  simp only [Nat.reduceAdd] at hs
  unfold law43_PlaylistReadsBack
  rw [hs]
  by_cases hc : 101 < p.L.length ∨ 9000 < s.length
  · have e : (decide (101 < (p.L.length : Int)) || decide (9000 < (s.length : Int))) = true := by
      simp only [Bool.or_eq_true, decide_eq_true_eq]; omega
    simp only [e, cond_true, obind, Option.bind_some]
  · have e : (decide (101 < (p.L.length : Int)) || decide (9000 < (s.length : Int))) = false := by
      rw [Bool.eq_false_iff]; intro h; simp only [Bool.or_eq_true, decide_eq_true_eq] at h; omega
    simp only [e, cond_false]
    rw [text_eq p hd _ (by omega), valid_eq p _ (by omega)]
    have second : (obind (playlist_Parse 100000 s) fun r32 =>
        cond (decide (r32.2 ≠ 0))
         (obind (some true) fun r38 =>
         some ((r38 && decide (r32.2 = 3)) && decide ((r32.1.L.length : Int) = 0)))
         (obind (playlist_Text 100000 r32.1) fun r46 =>
         obind (some true) fun r48 =>
         some ((r48 && decide (r46.2 = 0)) && decide (r46.1 = s)))) = some true := by
      rw [parse_eq s (by omega) _ (by omega)]
      cases hq : parseP s with
      | none => rfl
      | some q =>
        obtain ⟨a, b, c⟩ := text_parse hq
        simp only [obind, Option.bind_some]
        rw [text_eq q b _ (by omega)]
        simp [a, c]
    by_cases hp : VP p
    · simp only [hp, decide_true, obind, Option.bind_some, if_true] at second ⊢
      rw [parse_eq _ (textP_len hp) _ (by omega), parse_text hp hd]
      have hL := hp.2.2.1
      simp only [Option.bind_some, ne_eq, not_true_eq_false, decide_false, cond_false, decide_true, cond_true, BEq.rfl, Bool.not_true]
      rw [same_refl p (by omega) _ (by omega)]
      simpa using second
    · simp only [hp, decide_false, obind, Option.bind_some, if_false] at second ⊢
      simpa using second
end Go.Proofs.YtbgpojdmdnkeaaaDoor
namespace Go.Abs
open Go.Sem Go.ChangeShapes Go.RowKit

/-- a law's contract, as the claim's frame wants it -/
theorem Meets.law {P : Program} {f : FuncId} {args : List Value} {H : List HA} (h : Meets P f args H (fun v G => v = .bool true ∧ G = [])) {w : World} (hs : Sats w (fun _ => .no) H) :
    Calls P f args.toArray w fun e w' => e = .returned (.bool true) ∧ Below w.heap.size w w' := by
  refine (h w (fun _ => .no) (fun _ _ => rfl) hs).mono fun e w' ⟨v, G, o', he, ⟨hv, _⟩, _, ht, _⟩ => ?_
  subst hv
  exact ⟨he, ht.os, ht.tape, ht.output, ht.size, fun k hk => (ht.no k hk rfl).2⟩

theorem cells_open {w : World} {a : Option Addr} {len cap es : Nat} {cells : List (List Value)} (hcl : cells.length = len) (h1 : len ≤ cap) (h2 : cap ≤ maxLen) (h3 : a = none → cap = 0) (hes : 0 < es)
    (he : ∀ c ∈ cells, c.length = es) (hc : ∀ x, a = some x → ∀ i c, cells[i]? = some c → ∀ j v, c[j]? = some v → w.cell? (x.add (i * es + j)) = some v) :
    SliceIs w (fun b => (fun _ => Ow.no : Own) b = .no) (.slice a len cap) es cells := by
  refine ⟨a, cap, by rw [hcl], by omega, h2, h3, ?_⟩
  intro i c hi
  have hlen := he c (List.mem_of_getElem? hi)
  cases a with
  | none =>
    have := (List.getElem?_eq_some_iff.1 hi).1
    have := h3 rfl
    omega
  | some x =>
    have e0 : c[0]? = some (c[0]'(by omega)) := List.getElem?_eq_getElem (by omega)
    have h := hc x rfl i c hi 0 _ e0
    have hs0 := World.cell?_spot h
    have hb : x.block < w.heap.size := by
      unfold World.cell? at h
      have e : (x.add (i * es + 0)).block = x.block := by unfold Addr.add; split <;> rfl
      rw [e] at h
      cases hh : w.heap[x.block]? with
      | none => rw [hh] at h; simp at h
      | some o => exact (Array.getElem?_eq_some_iff.1 hh).1
    obtain ⟨b, off, spot⟩ := x
    refine ⟨hlen, b, off, ?_, hb, rfl, ?_⟩
    · cases spot with
      | none => rfl
      | some q =>
        exfalso
        have hi0 : ∀ i c, cells[i]? = some c → i = 0 := by
          intro i c hi
          false_or_by_contra
          have hlen := he c (List.mem_of_getElem? hi)
          have hi00 : cells[0]? = some (cells[0]'(by have := (List.getElem?_eq_some_iff.1 hi).1; omega)) := List.getElem?_eq_getElem _
          have hl0 := he _ (List.mem_of_getElem? hi00)
          have h := hc _ rfl 0 _ hi00 0 _ (List.getElem?_eq_getElem (by omega))
          have := World.cell?_spot h
          simp [Addr.add] at this
        have := hi0 i c hi
        subst this
        simp [Addr.add] at hs0
    · intro j v hj
      have h' := hc _ rfl i c hi j v hj
      have hsp := World.cell?_spot h'
      rw [← h']
      congr 1
      unfold Addr.add at hsp ⊢
      split
      · rename_i h0
        rw [if_pos h0] at hsp
        simp only at hsp
        rw [hsp]
        have : off + i * es + j = off := by omega
        rw [this]
      · rw [Nat.add_assoc]
theorem slice_nil {w : World} {B : Nat → Prop} {es : Nat} : SliceIs w B (.slice none 0 0) es [] := ⟨none, 0, rfl, by simp, by unfold maxLen; omega, fun _ => rfl, fun i c h => by simp at h⟩
end Go.Abs
namespace Go.Abs
open Go.Sem Go.ChangeShapes Go.RowKit
end Go.Abs
namespace Go.Abs
open Go.Sem Go.ChangeShapes Go.RowKit
section
variable {H : Type} {enc : TypeId × Value → H} {P : Program} {w : World} {base : Nat} {sp : Nat → Bool} {held : Bool}
end
end Go.Abs
namespace Go.Abs
open Go.Sem Go.ChangeShapes Go.RowKit
section
variable {H : Type} {enc : TypeId × Value → H} {P : Program} {w : World} {base : Nat} {sp : Nat → Bool} {held : Bool}
def wfI (k : IntKind) (n : Int) : Prop := (Lit.int k n).wf = true
theorem wf8 {n : Int} (h : wfI .u8 n) : 0 ≤ n ∧ n ≤ 255 := by
  simp only [wfI, Lit.wf, Bool.and_eq_true, decide_eq_true_eq] at h; exact h
/-- a type is opened: what is read of it lies in the cells 'F a', and a is well formed -/
def Opens (enc : TypeId × Value → H) (P : Program) (w : World) (base : Nat) (sp : Nat → Bool) (held : Bool) (t : TypeId) {α : Type} (F : α → List Value) (wf : α → Prop) : Prop :=
  ∀ (fuel : Nat) (cs : List Value) (x : DataW H × List MemPlace), DataW.trod enc P w base sp held fuel t cs = some x → ∃ a, cs = F a ∧ wf a
theorem opn_int {t : TypeId} {k : IntKind} (ht : P.underlying t = some (.int k)) : Opens enc P w base sp held t (eInt k) (wfI k) := by
  intro fuel cs x h
  obtain ⟨n, hc, _, hw⟩ := DataW.trod_int ht h
  exact ⟨n, hc, hw⟩
/-- the elements of a slice that is opened -/
theorem opn_slice {t e : TypeId} {es : Nat} {α : Type} {F : α → List Value} {wf : α → Prop} (ht : P.underlying t = some (.slice e)) (hce : P.cellsOf e = es) (hes : 0 < es) (hF : ∀ a, (F a).length = es)
    (ho : Opens enc P w base sp held e F wf) {fuel : Nat} {cs : List Value} {x : DataW H × List MemPlace} (h : DataW.trod enc P w base sp held fuel t cs = some x) :
    ∃ (v : Value) (l : List α), cs = [v] ∧ (∀ a ∈ l, wf a) ∧ SliceIs w (fun b => (fun _ => Ow.no : Own) b = .no) v es (l.map F) ∧
      ((x = (.nil, []) ∧ l = []) ∨ ∃ ys rs ps, x = (.slice ys rs, ps) ∧ ys.length = l.length) := by
  rcases DataW.trod_slice ht h with ⟨rfl, hx⟩ | ⟨a, len, cap, elems, rest, m, _, rfl, rfl, hb, hl, hm, hlen, hel', hsp, hns⟩
  · exact ⟨_, [], rfl, by simp, slice_nil, .inl ⟨hx, rfl⟩⟩
  · have each : ∀ i, i < len → ∃ d : α, wf d ∧ ∀ j v, (F d)[j]? = some v → w.cell? (a.add (i * es + j)) = some v := by
      intro i hi
      have h1 := hel' i hi
      rw [List.getElem?_eq_getElem (by omega), hce, Option.bind_eq_some_iff] at h1
      obtain ⟨cs', hcs, hy⟩ := h1
      obtain ⟨d, rfl, hd⟩ := ho _ _ _ hy
      refine ⟨d, hd, fun j v hj => ?_⟩
      have hjlt : j < es := by have := (List.getElem?_eq_some_iff.1 hj).1; rw [hF] at this; omega
      have := (World.cells?_some hcs).2.2 j hjlt
      rw [hj] at this
      rw [← this]
      congr 1
      unfold Addr.add
      by_cases e1 : i * es = 0
      · rw [if_pos e1]; simp [e1]
      · rw [if_neg e1, if_neg (by omega)]
        by_cases e2 : j = 0
        · simp [e2]
        · rw [if_neg e2]; simp [Nat.add_assoc]
    have hch : ∃ l : List α, l.length = len ∧ ∀ i d, l[i]? = some d → wf d ∧ ∀ j v, (F d)[j]? = some v → w.cell? (a.add (i * es + j)) = some v := by
      clear hel' hlen hsp hns hl h
      induction len with
      | zero => exact ⟨[], rfl, by simp⟩
      | succ k ih =>
        obtain ⟨l, hl1, hl2⟩ := ih (fun i hi => each i (by omega))
        obtain ⟨d, hd1, hd2⟩ := each k (by omega)
        refine ⟨l ++ [d], by simp [hl1], fun i d' hi => ?_⟩
        by_cases hik : i < k
        · rw [List.getElem?_append_left (by omega)] at hi; exact hl2 i d' hi
        · rw [List.getElem?_append_right (by omega)] at hi
          have : i = k := by have := (List.getElem?_eq_some_iff.1 hi).1; simp at this; omega
          subst this
          rw [hl1, Nat.sub_self] at hi
          simp at hi
          subst hi
          exact ⟨hd1, hd2⟩
    obtain ⟨l, hl1, hl2⟩ := hch
    refine ⟨_, l, rfl, ?_, ?_, .inr ⟨_, _, _, rfl, by simp [hlen, hl1]⟩⟩
    · intro d hd
      obtain ⟨i, hi⟩ := List.getElem?_of_mem hd
      exact (hl2 i d hi).1
    · refine cells_open (by rw [List.length_map, hl1]) hl hm (by simp) hes ?_ ?_
      · intro c hc
        obtain ⟨d, hd, rfl⟩ := List.mem_map.1 hc
        exact hF d
      · intro x hx i c hi j v hj
        cases hx
        simp only [List.getElem?_map, Option.map_eq_some_iff] at hi
        obtain ⟨d, hd, rfl⟩ := hi
        exact (hl2 i d hd).2 j v hj
end
end Go.Abs
namespace Go.Abs
open Go.Sem Go.ChangeShapes Go.RowKit
section
variable {H : Type} {enc : TypeId × Value → H} {P : Program} {w : World} {base : Nat} {sp : Nat → Bool} {held : Bool}
theorem opn_bool {t : TypeId} (ht : P.underlying t = some .bool) : Opens enc P w base sp held t eBool (fun _ => True) := by
  intro fuel cs x h
  obtain ⟨b, hc, _⟩ := DataW.trod_bool ht h
  exact ⟨b, hc, trivial⟩
theorem opn_str {t : TypeId} (ht : P.underlying t = some .string) : Opens enc P w base sp held t eStr (fun l => l.length ≤ maxLen) := by
  intro fuel cs x h
  obtain ⟨s, hc, _, hl⟩ := DataW.trod_string ht h
  exact ⟨s.data.toList, by rw [hc]; rfl, hl⟩
def noO : Own := fun _ => .no
def OpensN (enc : TypeId × Value → H) (P : Program) (w : World) (base : Nat) (sp : Nat → Bool) (held : Bool) (t : TypeId) {α : Type} (C : NC α) (wf : α → Prop) : Prop :=
  ∀ (fuel : Nat) (cs : List Value) (x : DataW H × List MemPlace), DataW.trod enc P w base sp held fuel t cs = some x → ∃ a g, cs = C.F a g ∧ wf a ∧ ∀ k, HsP (C.S a g) w noO k
theorem slice_len {t e : TypeId} (ht : P.underlying t = some (.slice e)) {fuel : Nat} {cs : List Value} {x : DataW H × List MemPlace} (h : DataW.trod enc P w base sp held fuel t cs = some x) {N : Nat}
    (hx : (x = (.nil, []) ∧ N = 0) ∨ ∃ ys rs ps, x = (.slice ys rs, ps) ∧ ys.length = N) : N ≤ maxLen := by
  rcases DataW.trod_slice ht h with ⟨_, h0⟩ | ⟨a, len, cap, elems, rest, m, _, _, h0, _, hl, hm, hlen, _⟩
  · rcases hx with ⟨_, rfl⟩ | ⟨ys, rs, ps, h1, _⟩
    · exact Nat.zero_le _
    · rw [h0] at h1; cases h1
  · rcases hx with ⟨h1, _⟩ | ⟨ys, rs, ps, h1, h2⟩
    · rw [h0] at h1; cases h1
    · rw [h0] at h1; cases h1; rw [List.length_map] at h2; omega
theorem opn_leafL {t e : TypeId} {es : Nat} {α : Type} {F : α → List Value} {wf : α → Prop} (ht : P.underlying t = some (.slice e)) (hce : P.cellsOf e = es) (hes : 0 < es) (hF : ∀ a, (F a).length = es)
    (ho : Opens enc P w base sp held e F wf) {fuel : Nat} {cs : List Value} {x : DataW H × List MemPlace} (h : DataW.trod enc P w base sp held fuel t cs = some x) :
    ∃ (v : Value) (l : List α), cs = [v] ∧ (l.length ≤ maxLen ∧ ∀ a ∈ l, wf a) ∧ ∀ k, (ro v es (l.map F)).p w noO k := by
  obtain ⟨v, l, h1, h2, h3, h4⟩ := opn_slice ht hce hes hF ho h
  refine ⟨v, l, h1, ⟨slice_len ht h ?_, h2⟩, fun _ => h3⟩
  rcases h4 with ⟨h5, rfl⟩ | h5
  · exact .inl ⟨h5, rfl⟩
  · exact .inr h5
end
end Go.Abs
namespace Go.Abs
open Go.Sem Go.ChangeShapes Go.RowKit
theorem laid_at {P : Program} {w : World} {n : String} {d : DataW Unit} : ∀ {l : List (String × DataW Unit)} {ps : List MemPlace}, DataW.LaidVars P w l ps → (n, d) ∈ l →
    ∃ g t cs fuel p, P.globalNamed n = some g ∧ (P.globals[g]?).map (·.type) = some t ∧ w.var? P n = some cs ∧ DataW.trod (fun _ => ()) P w 0 (fun _ => true) false fuel t cs.toList = some (d, p)
  | [], _, _, h => by simp at h
  | (m, e) :: r, ps, ⟨g, t, cs, fuel, p, q, h1, h2, h3, h4, h5, _⟩, h => by
    rcases List.mem_cons.1 h with h | h
    · cases h; exact ⟨g, t, cs, fuel, p, h1, h2, h3, h4⟩
    · exact laid_at h5 h
theorem laid_tab {P : Program} {w : World} {l : List (String × DataW Unit)} {name : String} {k : IntKind} {zs : List Int} {g t e : Nat} {n : Nat} (h : laidMet P l w) (hm : (name, Lib.tabData k zs) ∈ l)
    (hg : P.globalNamed name = some g) (hty : (P.globals[g]?).map (·.type) = some t) (ht : P.underlying t = some (.array n e)) (he : P.underlying e = some (.int k)) (hce : P.cellsOf e = 1) (hct : P.cellsOf t = n) : Lib.TabIs P w name k zs := by
  obtain ⟨ps, hl, _⟩ := h
  obtain ⟨g', t', cs, fuel, p, hg', ht', hvar, hd⟩ := laid_at hl hm
  obtain rfl := Option.some.inj (hg.symm.trans hg')
  obtain rfl := Option.some.inj (hty.symm.trans ht')
  unfold Lib.TabIs
  rw [hvar, ← Lib.cells_of_tab ht he hce hct hd]
theorem laid_iface {P : Program} {w : World} {l : List (String × DataW Unit)} {name s : String} {d : DataW Unit} {g t : Nat} {ms : Array (String × TypeId)} (h : laidMet P l w) (hm : (name, DataW.iface s d) ∈ l)
    (hg : P.globalNamed name = some g) (hty : (P.globals[g]?).map (·.type) = some t) (ht : P.underlying t = some (.interface ms)) : ∃ u v, w.cell? ⟨g, 0, none⟩ = some (.iface u v) := by
  obtain ⟨ps, hl, _⟩ := h
  obtain ⟨g', t', cs, fuel, p, hg', ht', hvar, hd⟩ := laid_at hl hm
  obtain rfl := Option.some.inj (hg.symm.trans hg')
  obtain rfl := Option.some.inj (hty.symm.trans ht')
  have hc : ∃ u v, cs.toList = [.iface u v] := by
    cases fuel with
    | zero => simp [DataW.trod] at hd
    | succ fuel =>
      unfold DataW.trod at hd
      rw [ht] at hd
      split at hd <;> simp_all
  obtain ⟨u, v, hc⟩ := hc
  refine ⟨u, v, ?_⟩
  have := World.var?_cell hg hvar 0
  rw [this, ← Array.getElem?_toList, hc]; rfl
section
variable {H : Type} {enc : TypeId × Value → H} {P : Program} {w : World} {base : Nat} {sp : Nat → Bool} {held : Bool}
theorem opn_arr {t e : TypeId} {n : Nat} {k : IntKind} (ht : P.underlying t = some (.array n e)) (he : P.underlying e = some (.int k)) (hce : P.cellsOf e = 1) (hct : P.cellsOf t = n) {fuel : Nat} {cs : List Value} {x : DataW H × List MemPlace}
    (h : DataW.trod enc P w base sp held fuel t cs = some x) : ∃ l : List Int, l.length = n ∧ cs = l.map (Value.int k) ∧ ∀ a ∈ l, wfI k a := by
  obtain ⟨xs, m, _, _, hl, hx, hf⟩ := DataW.trod_array ht h
  rw [hct] at hl
  have key : ∀ i, i < n → ∃ a, cs[i]? = some (.int k a) ∧ wfI k a := by
    intro i hi
    have h1 := hf i hi
    rw [List.getElem?_eq_getElem (show i < xs.length by omega)] at h1
    obtain ⟨a, hc, _, hw⟩ := DataW.trod_int he h1
    refine ⟨a, ?_, hw⟩
    have := congrArg (·[0]?) hc
    simpa [hce, List.getElem?_take, List.getElem?_drop] using this
  clear hf hx
  have all : ∀ (n : Nat) (cs : List Value), cs.length = n → (∀ i, i < n → ∃ a, cs[i]? = some (.int k a) ∧ wfI k a) → ∃ l : List Int, l.length = n ∧ cs = l.map (Value.int k) ∧ ∀ a ∈ l, wfI k a := by
    intro n
    induction n with
    | zero => intro cs hl _; exact ⟨[], rfl, by simpa using hl, by simp⟩
    | succ n ih =>
      intro cs hl key
      match cs, hl with
      | c :: r, hl =>
        obtain ⟨l, e1, e2, e3⟩ := ih r (by simpa using hl) (fun i hi => by simpa using key (i + 1) (by omega))
        obtain ⟨a, e4, e5⟩ := key 0 (by omega)
        refine ⟨a :: l, by simp [e1], ?_, ?_⟩
        · simp at e4; simp [e4, ← e2]
        · intro b hb
          rcases List.mem_cons.1 hb with rfl | hb
          · exact e5
          · exact e3 b hb
  exact all n cs hl key
end
end Go.Abs
namespace Go.Proofs.YtbgpojdmdnkeaaaDoor
open Go.Abs Go.ChangeShapes Go.RowKit
set_option maxRecDepth 100000
set_option linter.unusedVariables false
def NC_api_Playlist_27 : NC S_api_Playlist where
  G := Value
  es := 3
  F := fun x g => [.int .i64 x.First, g, .bool x.Done]
  S := fun x g => [ro g 20 (x.L.map S_api_Segment.enc)]
  free := by
    intro x g h hh
    simp only [List.mem_cons, List.not_mem_nil, or_false] at hh
    rcases hh with rfl <;> first | exact free_ro | exact free_nro
  ok := by
    intro x g w o k hh
    refine ⟨rfl, ?_⟩
    intro u hu
    simp only [List.mem_cons, List.not_mem_nil, or_false] at hu
    rcases hu with rfl | rfl | rfl <;> first | rfl | exact ro_one (hh _ (.head _)) | exact nro_one (hh _ (.head _))

def S_api_Digest.wf (x : S_api_Digest) : Prop := ∀ a ∈ x.toL, wfI .u8 a
theorem S_api_Digest.opn {H : Type} {enc : TypeId × Value → H} {w : World} {base : Nat} {sp : Nat → Bool} {held : Bool} : Opens enc Tryd.prog w base sp held 38 S_api_Digest.enc S_api_Digest.wf := by
  intro fuel cs x h
  obtain ⟨l, hl, e, hw⟩ := opn_arr Tryd.underlying38 Tryd.underlying5 (by kernel_rfl) (by kernel_rfl) h
  match l, hl with
  | [y0, y1, y2, y3, y4, y5, y6, y7, y8, y9, y10, y11, y12, y13, y14, y15], _ => exact ⟨⟨y0, y1, y2, y3, y4, y5, y6, y7, y8, y9, y10, y11, y12, y13, y14, y15⟩, e, hw⟩
def S_api_Segment.wf (x : S_api_Segment) : Prop := wfI .i64 x.Num ∧ wfI .i64 x.Begin ∧ wfI .i64 x.Len ∧ S_api_Digest.wf x.Body ∧ wfI .i64 x.Size
theorem S_api_Segment.opn {H : Type} {enc : TypeId × Value → H} {w : World} {base : Nat} {sp : Nat → Bool} {held : Bool} : Opens enc Tryd.prog w base sp held 40 S_api_Segment.enc S_api_Segment.wf := by
  intro fuel cs x h
  obtain ⟨xs, n, _, _, hl, hlen, hf⟩ := DataW.trod_struct Tryd.underlying40 h
  have hl' : cs.length = 20 := hl.trans (by kernel_rfl)
  have hx : xs.length = 5 := hlen
  have k3 : Tryd.prog.cellsOf 3 = 1 := by kernel_rfl
  have k38 : Tryd.prog.cellsOf 38 = 16 := by kernel_rfl
  match cs, hl' with
  | [c0, c1, c2, c3, c4, c5, c6, c7, c8, c9, c10, c11, c12, c13, c14, c15, c16, c17, c18, c19], _ =>
    have f0 := hf 0 _ rfl
    rw [List.getElem?_eq_getElem (show 0 < xs.length by omega)] at f0
    obtain ⟨a0, e0, w0⟩ := (opn_int Tryd.underlying3) _ _ _ f0
    simp [k3, eInt, eStr, eBool] at e0
    have f1 := hf 1 _ rfl
    rw [List.getElem?_eq_getElem (show 1 < xs.length by omega)] at f1
    obtain ⟨a1, e1, w1⟩ := (opn_int Tryd.underlying3) _ _ _ f1
    simp [k3, eInt, eStr, eBool] at e1
    have f2 := hf 2 _ rfl
    rw [List.getElem?_eq_getElem (show 2 < xs.length by omega)] at f2
    obtain ⟨a2, e2, w2⟩ := (opn_int Tryd.underlying3) _ _ _ f2
    simp [k3, eInt, eStr, eBool] at e2
    have f3 := hf 3 _ rfl
    rw [List.getElem?_eq_getElem (show 3 < xs.length by omega)] at f3
    obtain ⟨a3, e3, w3⟩ := S_api_Digest.opn _ _ _ f3
    simp [k38, S_api_Digest.enc] at e3
    have f4 := hf 4 _ rfl
    rw [List.getElem?_eq_getElem (show 4 < xs.length by omega)] at f4
    obtain ⟨a4, e4, w4⟩ := (opn_int Tryd.underlying3) _ _ _ f4
    simp [k3, eInt, eStr, eBool] at e4
    exact ⟨⟨a0, a1, a2, a3, a4⟩, by simp [S_api_Segment.enc, e0, e1, e2, e3, e4], w0, w1, w2, w3, w4⟩
def S_api_Playlist.wf (x : S_api_Playlist) : Prop := wfI .i64 x.First ∧ (x.L.length ≤ maxLen ∧ ∀ a ∈ x.L, S_api_Segment.wf a) ∧ True
theorem S_api_Playlist.opnN {H : Type} {enc : TypeId × Value → H} {w : World} {base : Nat} {sp : Nat → Bool} {held : Bool} : OpensN enc Tryd.prog w base sp held 27 NC_api_Playlist_27 S_api_Playlist.wf := by
  intro fuel cs x h
  obtain ⟨xs, n, _, _, hl, hlen, hf⟩ := DataW.trod_struct Tryd.underlying27 h
  have hl' : cs.length = 3 := hl.trans (by kernel_rfl)
  have hx : xs.length = 3 := hlen
  have k3 : Tryd.prog.cellsOf 3 = 1 := by kernel_rfl
  have k4 : Tryd.prog.cellsOf 4 = 1 := by kernel_rfl
  have k22 : Tryd.prog.cellsOf 22 = 1 := by kernel_rfl
  match cs, hl' with
  | [c0, c1, c2], _ =>
    have f0 := hf 0 _ rfl
    rw [List.getElem?_eq_getElem (show 0 < xs.length by omega)] at f0
    obtain ⟨a0, e0, w0⟩ := (opn_int Tryd.underlying3) _ _ _ f0
    simp [k3, eInt, eStr, eBool] at e0
    have f1 := hf 1 _ rfl
    rw [List.getElem?_eq_getElem (show 1 < xs.length by omega)] at f1
    obtain ⟨v1, a1, e1, w1, s1⟩ := opn_leafL (es := 20) (F := S_api_Segment.enc) (wf := S_api_Segment.wf) Tryd.underlying22 (by kernel_rfl) (by decide) (fun a => (S_api_Segment.enc_ok a).1) S_api_Segment.opn f1
    simp [k22, eInt, eStr, eBool] at e1
    have f2 := hf 2 _ rfl
    rw [List.getElem?_eq_getElem (show 2 < xs.length by omega)] at f2
    obtain ⟨a2, e2, w2⟩ := (opn_bool Tryd.underlying4) _ _ _ f2
    simp [k4, eInt, eStr, eBool] at e2
    refine ⟨⟨a0, a1, a2⟩, v1, by simp [NC_api_Playlist_27, e0, e1, e2], ⟨w0, w1, w2⟩, fun k h hh => ?_⟩
    simp only [NC_api_Playlist_27, List.mem_cons, List.not_mem_nil, or_false] at hh
    subst hh; exact s1 k
theorem NC_L_int_46.opn {H : Type} {enc : TypeId × Value → H} {w : World} {base : Nat} {sp : Nat → Bool} {held : Bool} : OpensN enc Tryd.prog w base sp held 46 NC_L_int_46 (fun a => (a.length ≤ maxLen ∧ ∀ c ∈ a, wfI .i64 c)) := by
  intro fuel cs x h
  obtain ⟨v, l, e, hw, hs⟩ := opn_leafL (es := 1) (F := (eInt .i64)) (wf := (fun a => wfI .i64 a)) Tryd.underlying46 (by kernel_rfl) (by decide) (fun a => ((eInt_ok _) a).1) (opn_int Tryd.underlying3) h
  exact ⟨l, v, e, hw, fun k h hh => by simp only [NC_L_int_46, List.mem_cons, List.not_mem_nil, or_false] at hh; subst hh; exact hs k⟩

end Go.Proofs.YtbgpojdmdnkeaaaDoor
namespace Go.Proofs.YtbgpojdmdnkeaaaDoor
open Go.Abs
theorem law4 (p : S_api_Playlist) (s : List UInt8) (hw : S_api_Playlist.wf p) (_ : s.length ≤ maxLen) : ∃ m, law43_PlaylistReadsBack m p s = some true :=
  law4_of p s (fun x hx b hb => by have := wf8 ((hw.2.1.2 x hx).2.2.2.1 b hb); omega)
end Go.Proofs.YtbgpojdmdnkeaaaDoor
namespace Go.Proofs.YtbgpojdmdnkeaaaDoor
open Go.Abs
/-- so many blocks has the settled world -/
noncomputable def low : Nat := (World.holding Tryd.prog default ⟨#[], #[], []⟩).heap.size
/-- the settled world with the laid variables -/
noncomputable def laidWorld (os : Os) : World :=
  let w0 := World.holding Tryd.prog os ⟨#[.cells #[.string ⟨#[105, 110, 118, 97, 108, 105, 100, 32, 115, 121, 110, 116, 97, 120]⟩] 140, .cells #[.string ⟨#[118, 97, 108, 117, 101, 32, 111, 117, 116, 32, 111, 102, 32, 114, 97, 110, 103, 101]⟩] 140], #[], []⟩
  { w0 with heap := (((((((w0.heap.modify 3 fun
      | .cells _ t frozen => .cells (([1, 10, 100, 1000, 10000, 100000, 1000000, 10000000, 100000000, 1000000000, 10000000000, 100000000000, 1000000000000, 10000000000000, 100000000000000, 1000000000000000, 10000000000000000, 100000000000000000, 1000000000000000000, 10000000000000000000] : List Int).map (Value.int .u64)).toArray t frozen
      | o => o).modify 4 fun
      | .cells _ t frozen => .cells (Go.Pinned.utf8FirstZ.map fun (n : Nat) => Value.int .u8 (n : Int)).toArray t frozen
      | o => o).modify 5 fun
      | .cells _ t frozen => .cells (([128, 191, 160, 191, 128, 159, 144, 191, 128, 143, 0, 0, 0, 0, 0, 0, 0, 0, 0, 0, 0, 0, 0, 0, 0, 0, 0, 0, 0, 0, 0, 0] : List Int).map (Value.int .u8)).toArray t frozen
      | o => o).modify 6 fun
      | .cells _ t frozen => .cells (([0, 1, 28, 2, 29, 14, 24, 3, 30, 22, 20, 15, 25, 17, 4, 8, 31, 27, 13, 23, 21, 19, 16, 7, 26, 12, 18, 6, 11, 5, 10, 9] : List Int).map (Value.int .u8)).toArray t frozen
      | o => o).modify 7 fun
      | .cells _ t frozen => .cells (([0, 1, 56, 2, 57, 49, 28, 3, 61, 58, 42, 50, 38, 29, 17, 4, 62, 47, 59, 36, 45, 43, 51, 22, 53, 39, 33, 30, 24, 18, 12, 5, 63, 55, 48, 27, 60, 41, 37, 16, 46, 35, 44, 21, 52, 32, 23, 11, 54, 26, 40, 15, 34, 20, 31, 10, 25, 14, 19, 9, 13, 8, 7, 6] : List Int).map (Value.int .u8)).toArray t frozen
      | o => o).modify 1 fun
      | .cells _ t frozen => .cells #[.iface 138 (.pointer (some ⟨low, 0, none⟩))] t frozen
      | o => o).modify 2 fun
      | .cells _ t frozen => .cells #[.iface 138 (.pointer (some ⟨low + 1, 0, none⟩))] t frozen
      | o => o) }
def laidL : List (String × DataW Unit) := [("math/bits.deBruijn32tab", Rows.laid_math_bits_deBruijn32tab), ("math/bits.deBruijn64tab", Rows.laid_math_bits_deBruijn64tab), ("internal/strconv.uint64pow10", Rows.laid_internal_strconv_uint64pow10), ("unicode/utf8.acceptRanges", Rows.laid_unicode_utf8_acceptRanges), ("strconv.ErrRange", Rows.laid_strconv_ErrRange), ("strconv.ErrSyntax", Rows.laid_strconv_ErrSyntax), ("unicode/utf8.first", Rows.laid_unicode_utf8_first)]
theorem laidWorld_met (os : Os) (args : Array Value) : laidMet Tryd.prog laidL ((laidWorld os).forCall (fun _ _ => 0) ⟨#[], args, []⟩).memory :=
  laidMet_of_run' 8 (by kernel_rfl) (by kernel_rfl)
theorem gPow : Tryd.prog.globalNamed "internal/strconv.uint64pow10" = some 3 := by kernel_rfl
theorem globIs {W : World} (h : laidMet Tryd.prog laidL W) (hs : W.ShapedOpen Tryd.prog) : GlobIs Tryd.prog 8 W where
  maxLen := let ⟨m, hm⟩ := Tryd.laysM146.s1_3 W hs; ⟨0, m, gMax, by decide, hm⟩
  errSyntax := let ⟨u, v, hc⟩ := laid_iface (s := "*errors.errorString") (d := .ptr (.agg [.lit (.string [105, 110, 118, 97, 108, 105, 100, 32, 115, 121, 110, 116, 97, 120])])) h (by simp [laidL, Rows.laid_strconv_ErrSyntax]) gSyn (t := 87) (by kernel_rfl) Tryd.underlying87; ⟨1, u, v, gSyn, by decide, hc⟩
  errRange := let ⟨u, v, hc⟩ := laid_iface (s := "*errors.errorString") (d := .ptr (.agg [.lit (.string [118, 97, 108, 117, 101, 32, 111, 117, 116, 32, 111, 102, 32, 114, 97, 110, 103, 101])])) h (by simp [laidL, Rows.laid_strconv_ErrRange]) gRng (t := 87) (by kernel_rfl) Tryd.underlying87; ⟨2, u, v, gRng, by decide, hc⟩
  pow10 := ⟨3, gPow, by decide, laid_tab h (List.mem_cons_of_mem _ (List.mem_cons_of_mem _ (List.mem_cons.2 (.inl (by kernel_rfl))))) gPow (t := 127) (by kernel_rfl) Tryd.underlying127 Tryd.underlying112 (by kernel_rfl) (by kernel_rfl)⟩
theorem laid_size {W : World} (h : laidMet Tryd.prog laidL W) : 8 ≤ W.heap.size := by
  obtain ⟨ps, hl, _⟩ := h
  obtain ⟨g, t, cs, fuel, p, e1, _, e3, _⟩ := laid_at (n := "math/bits.deBruijn64tab") hl (List.mem_cons_of_mem _ (List.mem_cons_self ..))
  have eg : Tryd.prog.globalNamed "math/bits.deBruijn64tab" = some 7 := by kernel_rfl
  obtain rfl := Option.some.inj (eg.symm.trans e1)
  unfold World.var? at e3
  rw [eg] at e3
  simp only [Option.bind_some] at e3
  by_cases h : 7 < W.heap.size
  · omega
  · rw [Array.getElem?_eq_none (by omega)] at e3; simp at e3
theorem globP {W : World} (h : laidMet Tryd.prog laidL W) (hs : W.ShapedOpen Tryd.prog) (k : Nat) : globA.p W noO k := ⟨laid_size h, fun _ _ => rfl, globIs h hs⟩
end Go.Proofs.YtbgpojdmdnkeaaaDoor
