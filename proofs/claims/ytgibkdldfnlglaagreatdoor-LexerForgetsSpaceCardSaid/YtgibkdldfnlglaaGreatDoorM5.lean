/-
  Texts that stand side by side: LexP, Pa, Pb, Pc, Pd, G3a, Pg, Ph, W3, Pi, G6a, Pj, W6, Pk, G7a, LexQ, Pl, W7.
-/
import Derived.Test.YtgibkdldfnlglaaGreatDoorM2
import Derived.Test.YtgibkdldfnlglaaGreatDoorFb
namespace Go.Lex
def sm (b : UInt8) : Bool := decide (97 ≤ b.toNat) && decide (b.toNat ≤ 122)
def dg (b : UInt8) : Bool := decide (48 ≤ b.toNat) && decide (b.toNat ≤ 57)
def rst (b : UInt8) : Bool := sm b || dg b || decide (b = 95)
def ltr (b : UInt8) : Bool := rst b || (decide (65 ≤ b.toNat) && decide (b.toNat ≤ 90))
def spc (b : UInt8) : Bool := decide (b = 32) || decide (b = 9) || decide (b = 10) || decide (b = 13)
/-- behind spaces and comments (true: in a comment) -/
def skipP : Bool → List UInt8 → List UInt8
  | _, [] => []
  | true, b :: r => if b = 10 then skipP false r else skipP true r
  | false, b :: r => if b = 35 then skipP true r else if spc b then skipP false r else b :: r
/-- the rest of a text -/
def txtP : List UInt8 → List UInt8 → Sum Int (Int × List UInt8 × List UInt8)
  | _, [] => .inl 182
  | out, b :: r =>
    if b = 34 then (if 200 < out.length then .inl 182 else .inr (4, out, r))
    else if b = 92 then (match r with
      | [] => .inl 182
      | c :: r' => if c = 34 ∨ c = 92 then txtP (out ++ [c]) r' else .inl 182)
    else if b.toNat < 32 ∨ 126 < b.toNat then .inl 182 else txtP (out ++ [b]) r
def longs : List (List UInt8) := [[61, 61], [33, 61], [60, 61], [62, 61], [46, 46]]
def shorts : List UInt8 := [123, 125, 40, 41, 91, 93, 44, 59, 58, 61, 60, 62, 43, 45, 42, 47, 37]
def sgnP : List UInt8 → Sum Int (Int × List UInt8 × List UInt8)
  | [] => .inl 180
  | [b] => if b ∈ shorts then .inr (5, [b], []) else .inl 180
  | b :: c :: r => if [b, c] ∈ longs then .inr (5, [b, c], r) else if b ∈ shorts then .inr (5, [b], c :: r) else .inl 180
def badNum (w r : List UInt8) : Bool := decide (18 < w.length) || (decide (w.head? = some 48) && decide (1 < w.length)) || (match r with | [] => false | c :: _ => ltr c)
def numP (s : List UInt8) : Sum Int (Int × List UInt8 × List UInt8) :=
  if badNum (s.takeWhile dg) (s.dropWhile dg) then .inl 181 else .inr (3, s.takeWhile dg, s.dropWhile dg)
def namP (kw : List (List UInt8)) (s : List UInt8) : Sum Int (Int × List UInt8 × List UInt8) :=
  if s.takeWhile rst ∈ kw then .inr (2, s.takeWhile rst, s.dropWhile rst) else if 40 < (s.takeWhile rst).length then .inl 2 else .inr (1, s.takeWhile rst, s.dropWhile rst)
/-- the token at the beginning: an error, or its kind, its text, and what follows -/
def nextP (kw : List (List UInt8)) : List UInt8 → Sum Int (Int × List UInt8 × List UInt8)
  | [] => .inl 180
  | b :: r => if sm b then namP kw (b :: r) else if dg b then numP (b :: r) else if b = 34 then txtP [] r else sgnP (b :: r)
/-- the tokens (kind, what is left from there on, text) and the problem (what is left, error) -/
def toksP (kw : List (List UInt8)) : Nat → List UInt8 → List (Int × Nat × List UInt8) × Option (Nat × Int)
  | 0, _ => ([], none)
  | f + 1, s => match skipP false s with
    | [] => ([], none)
    | b :: r => match nextP kw (b :: r) with
      | .inl e => ([], some (r.length + 1, e))
      | .inr (k, w, rest) => ((k, r.length + 1, w) :: (toksP kw f rest).1, (toksP kw f rest).2)

theorem toks_nil {kw : List (List UInt8)} {s : List UInt8} (h : skipP false s = []) (f : Nat) : toksP kw f s = ([], none) := by
  cases f with
  | zero => rfl
  | succ f => show (match skipP false s with | [] => _ | b :: r => _) = _; rw [h]
theorem toks_inl {kw : List (List UInt8)} {s r : List UInt8} {b : UInt8} {e : Int} (h : skipP false s = b :: r) (hn : nextP kw (b :: r) = .inl e) (f : Nat) : toksP kw (f + 1) s = ([], some (r.length + 1, e)) := by
  show (match skipP false s with | [] => _ | b :: r => _) = _
  rw [h]
  show (match nextP kw (b :: r) with | .inl e => _ | .inr (k, w, rest) => _) = _
  rw [hn]
theorem toks_inr {kw : List (List UInt8)} {s r w rest : List UInt8} {b : UInt8} {k : Int} (h : skipP false s = b :: r) (hn : nextP kw (b :: r) = .inr (k, w, rest)) (f : Nat) :
    toksP kw (f + 1) s = ((k, r.length + 1, w) :: (toksP kw f rest).1, (toksP kw f rest).2) := by
  show (match skipP false s with | [] => _ | b :: r => _) = _
  rw [h]
  show (match nextP kw (b :: r) with | .inl e => _ | .inr (k, w, rest) => _) = _
  rw [hn]
theorem next_cons (kw : List (List UInt8)) (b : UInt8) (r : List UInt8) : nextP kw (b :: r) = if sm b then namP kw (b :: r) else if dg b then numP (b :: r) else if b = 34 then txtP [] r else sgnP (b :: r) := rfl
theorem sgn_one (b : UInt8) : sgnP [b] = if b ∈ shorts then .inr (5, [b], []) else .inl 180 := rfl
theorem sgn_two (b c : UInt8) (r : List UInt8) : sgnP (b :: c :: r) = if [b, c] ∈ longs then .inr (5, [b, c], r) else if b ∈ shorts then .inr (5, [b], c :: r) else .inl 180 := rfl
theorem txt_nil (out : List UInt8) : txtP out [] = .inl 182 := by rw [txtP.eq_def]
theorem txt_cons (out : List UInt8) (b : UInt8) (r : List UInt8) : txtP out (b :: r) = if b = 34 then (if 200 < out.length then .inl 182 else .inr (4, out, r))
    else if b = 92 then (match r with
      | [] => .inl 182
      | c :: r' => if c = 34 ∨ c = 92 then txtP (out ++ [c]) r' else .inl 182)
    else if b.toNat < 32 ∨ 126 < b.toNat then .inl 182 else txtP (out ++ [b]) r := by rw [txtP.eq_def]
theorem skip_t (b : UInt8) (r : List UInt8) : skipP true (b :: r) = if b = 10 then skipP false r else skipP true r := rfl
theorem skip_f (b : UInt8) (r : List UInt8) : skipP false (b :: r) = if b = 35 then skipP true r else if spc b then skipP false r else b :: r := rfl
theorem skip_len : ∀ (c : Bool) (s : List UInt8), (skipP c s).length ≤ s.length
  | c, [] => by cases c <;> simp [skipP]
  | true, b :: r => by
    have h1 := skip_len true r; have h2 := skip_len false r
    unfold skipP; split <;> simp <;> omega
  | false, b :: r => by
    have h1 := skip_len true r; have h2 := skip_len false r
    unfold skipP; split
    · simp; omega
    · split <;> simp; omega
theorem skip_suf : ∀ (c : Bool) (s : List UInt8), ∃ p, s = p ++ skipP c s
  | c, [] => ⟨[], by cases c <;> simp [skipP]⟩
  | true, b :: r => by
    obtain ⟨p1, h1⟩ := skip_suf true r; obtain ⟨p2, h2⟩ := skip_suf false r
    unfold skipP; split
    · exact ⟨b :: p2, by simpa using h2⟩
    · exact ⟨b :: p1, by simpa using h1⟩
  | false, b :: r => by
    obtain ⟨p1, h1⟩ := skip_suf true r; obtain ⟨p2, h2⟩ := skip_suf false r
    unfold skipP; split
    · exact ⟨b :: p1, by simpa using h1⟩
    · split
      · exact ⟨b :: p2, by simpa using h2⟩
      · exact ⟨[], rfl⟩
theorem txt_len : ∀ (n : Nat) (s out : List UInt8) (k : Int) (w r : List UInt8), s.length ≤ n → txtP out s = .inr (k, w, r) → r.length < s.length := by
  intro n
  induction n with
  | zero =>
    intro s out k w r hn h
    match s, hn with
    | [], _ => rw [txt_nil] at h; cases h
  | succ n ih =>
    intro s out k w r hn h
    match s, hn with
    | [], _ => rw [txt_nil] at h; cases h
    | b :: t, hn =>
      rw [txt_cons] at h
      split at h
      · split at h
        · cases h
        · cases h; simp
      · split at h
        · match t, hn, h with
          | [], _, h => cases h
          | c :: t', hn, h =>
            simp only at h
            split at h
            · have := ih t' _ _ _ _ (by simp at hn; omega) h
              simp; omega
            · cases h
        · split at h
          · cases h
          · have := ih t _ _ _ _ (by simp at hn; omega) h
            simp; omega
theorem drop_len {p : UInt8 → Bool} (s : List UInt8) : (s.dropWhile p).length ≤ s.length := List.Sublist.length_le (List.dropWhile_sublist _)
theorem next_len {kw : List (List UInt8)} {s : List UInt8} {k : Int} {w r : List UInt8} (h : nextP kw s = .inr (k, w, r)) : r.length < s.length := by
  match s, h with
  | b :: t, h =>
    rw [next_cons] at h
    split at h
    · rename_i hb
      have hr : rst b = true := by unfold rst; rw [hb]; rfl
      have := drop_len (p := rst) t
      unfold namP at h
      rw [List.dropWhile_cons_of_pos hr] at h
      split at h
      · cases h; simp; omega
      · split at h
        · cases h
        · cases h; simp; omega
    · split at h
      · rename_i hb
        have := drop_len (p := dg) t
        unfold numP at h
        rw [List.dropWhile_cons_of_pos hb] at h
        split at h
        · cases h
        · cases h; simp; omega
      · split at h
        · have := txt_len _ _ _ _ _ _ (Nat.le_refl _) h
          simp; omega
        · match t, h with
          | [], h =>
            rw [sgn_one] at h
            split at h
            · cases h; simp
            · cases h
          | c :: t', h =>
            rw [sgn_two] at h
            split at h
            · cases h; simp; omega
            · split at h
              · cases h; simp
              · cases h
theorem txt_suf : ∀ (n : Nat) (s out : List UInt8) (k : Int) (w r : List UInt8), s.length ≤ n → txtP out s = .inr (k, w, r) → r <:+ s := by
  intro n
  induction n with
  | zero =>
    intro s out k w r hn h
    match s, hn with
    | [], _ => rw [txt_nil] at h; cases h
  | succ n ih =>
    intro s out k w r hn h
    match s, hn with
    | [], _ => rw [txt_nil] at h; cases h
    | b :: t, hn =>
      rw [txt_cons] at h
      split at h
      · split at h
        · cases h
        · cases h; exact List.suffix_cons _ _
      · split at h
        · match t, hn, h with
          | [], _, h => cases h
          | c :: t', hn, h =>
            simp only at h
            split at h
            · exact ((ih t' _ _ _ _ (by simp at hn; omega) h).trans (List.suffix_cons _ _)).trans (List.suffix_cons _ _)
            · cases h
        · split at h
          · cases h
          · exact (ih t _ _ _ _ (by simp at hn; omega) h).trans (List.suffix_cons _ _)
theorem next_suf {kw : List (List UInt8)} {s : List UInt8} {k : Int} {w r : List UInt8} (h : nextP kw s = .inr (k, w, r)) : r <:+ s := by
  match s, h with
  | b :: t, h =>
    rw [next_cons] at h
    split at h
    · unfold namP at h
      split at h
      · cases h; exact List.dropWhile_suffix _
      · split at h
        · cases h
        · cases h; exact List.dropWhile_suffix _
    · split at h
      · unfold numP at h
        split at h
        · cases h
        · cases h; exact List.dropWhile_suffix _
      · split at h
        · exact (txt_suf _ _ _ _ _ _ (Nat.le_refl _) h).trans (List.suffix_cons _ _)
        · match t, h with
          | [], h =>
            rw [sgn_one] at h
            split at h
            · cases h; exact List.suffix_cons _ _
            · cases h
          | c :: t', h =>
            rw [sgn_two] at h
            split at h
            · cases h; exact (List.suffix_cons _ _).trans (List.suffix_cons _ _)
            · split at h
              · cases h; exact List.suffix_cons _ _
              · cases h
theorem skip_head : ∀ (c : Bool) (s : List UInt8) (b : UInt8) (r : List UInt8), skipP c s = b :: r → b ≠ 35 ∧ spc b = false
  | true, [], b, r, h => by simp [skipP] at h
  | false, [], b, r, h => by simp [skipP] at h
  | true, c :: s, b, r, h => by
    rw [skip_t] at h
    split at h
    · exact skip_head false s b r h
    · exact skip_head true s b r h
  | false, c :: s, b, r, h => by
    rw [skip_f] at h
    split at h
    · exact skip_head true s b r h
    · split at h
      · exact skip_head false s b r h
      · cases h
        rename_i h1 h2
        exact ⟨h1, by simpa using h2⟩
theorem skip_idem (c : Bool) (s : List UInt8) : skipP false (skipP c s) = skipP c s := by
  cases h : skipP c s with
  | nil => rfl
  | cons b r =>
    obtain ⟨h1, h2⟩ := skip_head c s b r h
    rw [skip_f, if_neg h1, h2]
    rfl
theorem toks_skip (kw : List (List UInt8)) (f : Nat) (s : List UInt8) : toksP kw f (skipP false s) = toksP kw f s := by
  cases hs : skipP false s with
  | nil => rw [toks_nil hs, toks_nil rfl]
  | cons b r =>
    have h2 : skipP false (b :: r) = b :: r := by rw [← hs, skip_idem]
    cases f with
    | zero => rfl
    | succ f =>
      cases hn : nextP kw (b :: r) with
      | inl e => rw [toks_inl hs hn, toks_inl h2 hn]
      | inr q => obtain ⟨k, w, rest⟩ := q; rw [toks_inr hs hn, toks_inr h2 hn]
theorem skip_suffix (c : Bool) (s : List UInt8) : skipP c s <:+ s := by
  obtain ⟨p, h⟩ := skip_suf c s
  exact ⟨p, h.symm⟩
theorem suf_drop {r s : List UInt8} (h : r <:+ s) : s.drop (s.length - r.length) = r := (List.suffix_iff_eq_drop.1 h).symm
/-- enough fuel is enough -/
theorem toks_fuel (kw : List (List UInt8)) : ∀ (f g : Nat) (s : List UInt8), s.length < f → s.length < g → toksP kw f s = toksP kw g s
  | 0, _, _, h, _ => by omega
  | _, 0, _, _, h => by omega
  | f + 1, g + 1, s, h1, h2 => by
    have hl := skip_len false s
    cases hs : skipP false s with
    | nil => rw [toks_nil hs, toks_nil hs]
    | cons b r =>
      rw [hs] at hl
      cases hn : nextP kw (b :: r) with
      | inl e => rw [toks_inl hs hn, toks_inl hs hn]
      | inr q =>
        obtain ⟨k, w, rest⟩ := q
        have := next_len hn
        rw [toks_inr hs hn, toks_inr hs hn, toks_fuel kw f g rest (by simp at hl this; omega) (by simp at hl this; omega)]
theorem txt_err : ∀ (n : Nat) (s out : List UInt8) (e : Int), s.length ≤ n → txtP out s = .inl e → e = 182 := by
  intro n
  induction n with
  | zero =>
    intro s out e hn h
    match s, hn with
    | [], _ => rw [txt_nil] at h; cases h; rfl
  | succ n ih =>
    intro s out e hn h
    match s, hn with
    | [], _ => rw [txt_nil] at h; cases h; rfl
    | b :: t, hn =>
      rw [txt_cons] at h
      split at h
      · split at h
        · cases h; rfl
        · cases h
      · split at h
        · match t, hn, h with
          | [], _, h => cases h; rfl
          | c :: t', hn, h =>
            simp only at h
            split at h
            · exact ih t' _ _ (by simp at hn; omega) h
            · cases h; rfl
        · split at h
          · cases h; rfl
          · exact ih t _ _ (by simp at hn; omega) h
theorem next_err {kw : List (List UInt8)} {s : List UInt8} {e : Int} (h : nextP kw s = .inl e) : e ≠ 0 := by
  match s, h with
  | [], h => cases h; decide
  | b :: t, h =>
    rw [next_cons] at h
    split at h
    · unfold namP at h
      split at h
      · cases h
      · split at h
        · cases h; decide
        · cases h
    · split at h
      · unfold numP at h
        split at h
        · cases h; decide
        · cases h
      · split at h
        · rw [txt_err _ _ _ _ (Nat.le_refl _) h]; decide
        · match t, h with
          | [], h =>
            rw [sgn_one] at h
            split at h
            · cases h
            · cases h; decide
          | c :: t', h =>
            rw [sgn_two] at h
            split at h
            · cases h
            · split at h
              · cases h
              · cases h; decide
/-- what tokens and problems stand at -/
theorem toks_ok (kw : List (List UInt8)) : ∀ (f : Nat) (s : List UInt8), (toksP kw f s).1.length ≤ s.length ∧ (∀ x ∈ (toksP kw f s).1, x.2.1 ≤ s.length) ∧ ∀ k e, (toksP kw f s).2 = some (k, e) → e ≠ 0 ∧ k ≤ s.length
  | 0, s => ⟨by simp [toksP], by simp [toksP], by simp [toksP]⟩
  | f + 1, s => by
    have hl := skip_len false s
    cases hs : skipP false s with
    | nil => rw [toks_nil hs]; simp
    | cons b r =>
      rw [hs] at hl
      simp only [List.length_cons] at hl
      cases hn : nextP kw (b :: r) with
      | inl e =>
        rw [toks_inl hs hn]
        refine ⟨by simp, by simp, fun k e' h => ?_⟩
        cases h
        exact ⟨next_err hn, hl⟩
      | inr q =>
        obtain ⟨k, w, rest⟩ := q
        have hlt := next_len hn
        simp only [List.length_cons] at hlt
        obtain ⟨h1, h2, h3⟩ := toks_ok kw f rest
        rw [toks_inr hs hn]
        refine ⟨by simp; omega, fun x hx => ?_, fun k e h => ?_⟩
        · rcases List.mem_cons.1 hx with rfl | hx
          · exact hl
          · have := h2 x hx; omega
        · have := h3 k e h
          exact ⟨this.1, by omega⟩
/-! a line feed parts two sources -/
def andThen (y : List UInt8) : Sum Int (Int × List UInt8 × List UInt8) → Sum Int (Int × List UInt8 × List UInt8)
  | .inl e => .inl e
  | .inr (k, w, r) => .inr (k, w, r ++ y)
theorem skip_app (y : List UInt8) : ∀ (c : Bool) (x : List UInt8), skipP c (x ++ 10 :: y) = if skipP c x = [] then skipP false y else skipP c x ++ 10 :: y
  | true, [] => by simp [skipP]
  | false, [] => by simp [skipP, spc]
  | true, b :: r => by
    have h1 := skip_app y true r; have h2 := skip_app y false r
    rw [List.cons_append, skip_t b, skip_t b]
    split
    · exact h2
    · exact h1
  | false, b :: r => by
    have h1 := skip_app y true r; have h2 := skip_app y false r
    rw [List.cons_append, skip_f b, skip_f b]
    split
    · exact h1
    · split
      · exact h2
      · simp
end Go.Lex
namespace Go.Proofs.YtgibkdldfnlglaaGreatDoor
open Go.Abs Go.Lex
set_option linter.unusedSimpArgs false
set_option linter.unusedVariables false
theorem idx_get'' {α β : Type} {l : List α} {i : Nat} (h : i < l.length) (k : α → Option β) : idx l (i : Int) k = k l[i] := by
  rw [idx_get (List.getElem?_eq_getElem h)]
theorem tw_take (p : UInt8 → Bool) : ∀ l : List UInt8, l.take (l.takeWhile p).length = l.takeWhile p ∧ l.drop (l.takeWhile p).length = l.dropWhile p
  | [] => ⟨rfl, rfl⟩
  | b :: r => by
    obtain ⟨h1, h2⟩ := tw_take p r
    cases hb : p b with
    | true => simp [List.takeWhile_cons_of_pos hb, List.dropWhile_cons_of_pos hb, h1, h2]
    | false => have hb' : ¬ p b = true := by simp [hb]
               simp [List.takeWhile_cons_of_neg hb', List.dropWhile_cons_of_neg hb']
theorem tw_le (p : UInt8 → Bool) (l : List UInt8) : (l.takeWhile p).length ≤ l.length := List.Sublist.length_le (List.takeWhile_sublist _)
theorem drop_cons {s : List UInt8} {i : Nat} (h : i < s.length) : s.drop i = s[i] :: s.drop (i + 1) := List.drop_eq_getElem_cons h
/-- a run of bytes of one kind -/
theorem while_gen {R : Type} (p : UInt8 → Bool) (s : List UInt8) (hs : s.length ≤ 1000000) (step : Int → Option (Lp Int (Lp Int R)))
    (h1 : ∀ i (h : i < s.length), step (i : Int) = if p s[i] then some (.go ((i + 1 : Nat) : Int)) else some (.stop (.go (i : Int)))) (h2 : step (s.length : Int) = some (.stop (.go (s.length : Int))))
    (a : Nat) (ha : a ≤ s.length) (n : Nat) (hn : s.length < n) : iter step n (a : Int) = some (.go ((a + ((s.drop a).takeWhile p).length : Nat) : Int)) := by
  obtain ⟨r, e, rfl⟩ := iter_inv (step := step) (fun x => ∃ i : Nat, x = (i : Int) ∧ i ≤ s.length ∧ i + ((s.drop i).takeWhile p).length = a + ((s.drop a).takeWhile p).length) (fun x => s.length - x.toNat) (fun r => r = .go ((a + ((s.drop a).takeWhile p).length : Nat) : Int)) (by
    rintro x ⟨i, rfl, hi, hk⟩
    by_cases hlt : i < s.length
    · rw [h1 i hlt]
      rw [drop_cons hlt] at hk
      cases hp : p s[i] with
      | true =>
        rw [List.takeWhile_cons_of_pos hp] at hk
        refine .inl ⟨_, rfl, ⟨i + 1, rfl, by omega, ?_⟩, by simp; omega⟩
        rw [← hk]; simp; omega
      | false =>
        have hp' : ¬ p s[i] = true := by simp [hp]
        rw [List.takeWhile_cons_of_neg hp'] at hk
        simp only [Bool.false_eq_true, if_false]
        refine .inr ⟨_, rfl, ?_⟩
        rw [← hk]; simp
    · obtain rfl : i = s.length := by omega
      rw [h2]
      refine .inr ⟨_, rfl, ?_⟩
      rw [← hk]; simp) n a ⟨a, rfl, ha, rfl⟩ (by simp; omega)
  exact e
theorem small_eq (b : UInt8) : lexer_isSmall (b.toNat : Int) = some (sm b) := by
  unfold lexer_isSmall sm
  congr 1
  rw [Bool.eq_iff_iff]; simp only [Bool.and_eq_true, decide_eq_true_eq]; omega
theorem digit_eq (b : UInt8) : lexer_isDigit (b.toNat : Int) = some (dg b) := by
  unfold lexer_isDigit dg
  congr 1
  rw [Bool.eq_iff_iff]; simp only [Bool.and_eq_true, decide_eq_true_eq]; omega
theorem byte_eq (b c : UInt8) (k : Int) (h : (c.toNat : Int) = k) : decide ((b.toNat : Int) = k) = decide (b = c) := by
  subst h
  rw [decide_eq_decide]
  constructor
  · intro h; exact UInt8.toNat_inj.1 (by omega)
  · intro h; rw [h]
theorem rest_eq (b : UInt8) : lexer_isRest (b.toNat : Int) = some (rst b) := by
  unfold lexer_isRest
  rw [small_eq, digit_eq]
  simp only [obind, Option.bind_some]
  rw [byte_eq b 95 95 rfl]
  unfold rst
  cases sm b <;> simp [bindJ_go]
theorem spc_eq (b : UInt8) : weirgate_lexer_reader_space_1_50 (b.toNat : Int) = some (spc b) := by
  unfold weirgate_lexer_reader_space_1_50 spc
  rw [byte_eq b 32 32 rfl, byte_eq b 9 9 rfl, byte_eq b 10 10 rfl, byte_eq b 13 13 rfl]
theorem nl_eq (b : UInt8) : weirgate_lexer_reader_space_2_51 (b.toNat : Int) = some (!decide (b = 10)) := by
  unfold weirgate_lexer_reader_space_2_51
  rw [← byte_eq b 10 10 rfl]
  simp
/-- what such a run is, and where it ends -/
theorem while_fin {s : List UInt8} {p : UInt8 → Bool} {a : Nat} (ha : a ≤ s.length) :
    (s.take (a + ((s.drop a).takeWhile p).length)).drop a = (s.drop a).takeWhile p ∧ s.drop (a + ((s.drop a).takeWhile p).length) = (s.drop a).dropWhile p ∧ a + ((s.drop a).takeWhile p).length ≤ s.length := by
  obtain ⟨h1, h2⟩ := tw_take p (s.drop a)
  have h3 := tw_le p (s.drop a)
  rw [List.length_drop] at h3
  refine ⟨?_, ?_, by omega⟩
  · rw [List.drop_take, Nat.add_sub_cancel_left, h1]
  · rw [← List.drop_drop, h2]
theorem while0 (s : List UInt8) (hs : s.length ≤ 1000000) (a : Nat) (ha : a ≤ s.length) (n : Nat) (hn : s.length < n) :
    weirgate_lexer_reader_while_49 n ⟨s, a⟩ = some ((s.drop a).takeWhile spc, ⟨s, ((a + ((s.drop a).takeWhile spc).length : Nat) : Int)⟩) := by
  unfold weirgate_lexer_reader_while_49
  simp only
  rw [while_gen spc s hs _ (fun i h => by
    unfold weirgate_lexer_reader_while_49_L1
    simp only
    rw [decide_eq_true (by omega), cond_true, idx_get'' h, spc_eq]
    simp only [obind, Option.bind_some, bindJ_go]
    rw [w64 (by omega) (by omega)]
    cases spc s[i] <;> rfl) (by
    unfold weirgate_lexer_reader_while_49_L1
    simp only
    rw [decide_eq_false (by omega), cond_false, bindJ_go, cond_false]) a ha n hn, bindJ_go]
  obtain ⟨h1, h2, h3⟩ := while_fin (s := s) (p := spc) ha
  rw [need_pos (by omega), Int.toNat_natCast, Int.toNat_natCast, h1]
theorem while1 (s : List UInt8) (hs : s.length ≤ 1000000) (a : Nat) (ha : a ≤ s.length) (n : Nat) (hn : s.length < n) :
    weirgate_lexer_reader_while_49_v1 n ⟨s, a⟩ = some ((s.drop a).takeWhile (fun b => !decide (b = 10)), ⟨s, ((a + ((s.drop a).takeWhile (fun b => !decide (b = 10))).length : Nat) : Int)⟩) := by
  unfold weirgate_lexer_reader_while_49_v1
  simp only
  rw [while_gen (fun b => !decide (b = 10)) s hs _ (fun i h => by
    unfold weirgate_lexer_reader_while_49_v1_L1
    simp only
    rw [decide_eq_true (by omega), cond_true, idx_get'' h, nl_eq]
    simp only [obind, Option.bind_some, bindJ_go]
    rw [w64 (by omega) (by omega)]
    cases decide (s[i] = 10) <;> rfl) (by
    unfold weirgate_lexer_reader_while_49_v1_L1
    simp only
    rw [decide_eq_false (by omega), cond_false, bindJ_go, cond_false]) a ha n hn, bindJ_go]
  obtain ⟨h1, h2, h3⟩ := while_fin (s := s) (p := fun b => !decide (b = 10)) ha
  rw [need_pos (by omega), Int.toNat_natCast, Int.toNat_natCast, h1]
theorem while2 (s : List UInt8) (hs : s.length ≤ 1000000) (a : Nat) (ha : a ≤ s.length) (n : Nat) (hn : s.length < n) :
    weirgate_lexer_reader_while_49_v2 n ⟨s, a⟩ = some ((s.drop a).takeWhile rst, ⟨s, ((a + ((s.drop a).takeWhile rst).length : Nat) : Int)⟩) := by
  unfold weirgate_lexer_reader_while_49_v2
  simp only
  rw [while_gen rst s hs _ (fun i h => by
    unfold weirgate_lexer_reader_while_49_v2_L1
    simp only
    rw [decide_eq_true (by omega), cond_true, idx_get'' h, rest_eq]
    simp only [obind, Option.bind_some, bindJ_go]
    rw [w64 (by omega) (by omega)]
    cases rst s[i] <;> rfl) (by
    unfold weirgate_lexer_reader_while_49_v2_L1
    simp only
    rw [decide_eq_false (by omega), cond_false, bindJ_go, cond_false]) a ha n hn, bindJ_go]
  obtain ⟨h1, h2, h3⟩ := while_fin (s := s) (p := rst) ha
  rw [need_pos (by omega), Int.toNat_natCast, Int.toNat_natCast, h1]
theorem while3 (s : List UInt8) (hs : s.length ≤ 1000000) (a : Nat) (ha : a ≤ s.length) (n : Nat) (hn : s.length < n) :
    weirgate_lexer_reader_while_49_v3 n ⟨s, a⟩ = some ((s.drop a).takeWhile dg, ⟨s, ((a + ((s.drop a).takeWhile dg).length : Nat) : Int)⟩) := by
  unfold weirgate_lexer_reader_while_49_v3
  simp only
  rw [while_gen dg s hs _ (fun i h => by
    unfold weirgate_lexer_reader_while_49_v3_L1
    simp only
    rw [decide_eq_true (by omega), cond_true, idx_get'' h, digit_eq]
    simp only [obind, Option.bind_some, bindJ_go]
    rw [w64 (by omega) (by omega)]
    cases dg s[i] <;> rfl) (by
    unfold weirgate_lexer_reader_while_49_v3_L1
    simp only
    rw [decide_eq_false (by omega), cond_false, bindJ_go, cond_false]) a ha n hn, bindJ_go]
  obtain ⟨h1, h2, h3⟩ := while_fin (s := s) (p := dg) ha
  rw [need_pos (by omega), Int.toNat_natCast, Int.toNat_natCast, h1]
/-! spaces -/
theorem skip_spc : ∀ l : List UInt8, skipP false l = skipP false (l.dropWhile spc)
  | [] => rfl
  | b :: r => by
    cases hb : spc b with
    | true =>
      rw [List.dropWhile_cons_of_pos hb, skip_f, if_neg (by rintro rfl; simp [spc] at hb), if_pos hb]
      exact skip_spc r
    | false => rw [List.dropWhile_cons_of_neg (by simp [hb])]
theorem skip_cmt : ∀ l : List UInt8, skipP true l = skipP false (l.dropWhile fun b => !decide (b = 10))
  | [] => rfl
  | b :: r => by
    rw [skip_t]
    by_cases hb : b = 10
    · subst hb
      rw [if_pos rfl, List.dropWhile_cons_of_neg (by simp), skip_f, if_neg (by decide), if_pos (by decide)]
    · rw [if_neg hb, List.dropWhile_cons_of_pos (by simp [hb])]
      exact skip_cmt r
theorem dw_head {p : UInt8 → Bool} : ∀ (l : List UInt8) (b : UInt8) (r : List UInt8), l.dropWhile p = b :: r → p b = false
  | [], b, r, h => by simp at h
  | c :: l, b, r, h => by
    cases hc : p c with
    | true => rw [List.dropWhile_cons_of_pos hc] at h; exact dw_head l b r h
    | false => rw [List.dropWhile_cons_of_neg (by simp [hc])] at h; cases h; exact hc
theorem space_eq (s : List UInt8) (hs : s.length ≤ 1000000) (a : Nat) (ha : a ≤ s.length) (n : Nat) (hn : s.length + 1 < n) :
    weirgate_lexer_reader_space_28 n ⟨s, a⟩ = some ⟨s, ((s.length - (skipP false (s.drop a)).length : Nat) : Int)⟩ := by
  unfold weirgate_lexer_reader_space_28
  simp only
  obtain ⟨r, e, rfl⟩ := iter_inv (step := weirgate_lexer_reader_space_28_L1 n) (fun x => ∃ i : Nat, x = (s, (i : Int)) ∧ i ≤ s.length ∧ skipP false (s.drop i) = skipP false (s.drop a)) (fun x => s.length - x.2.toNat) (fun r => r = ⟨s, ((s.length - (skipP false (s.drop a)).length : Nat) : Int)⟩) (by
    rintro x ⟨i, rfl, hi, hk⟩
    unfold weirgate_lexer_reader_space_28_L1
    simp only
    rw [while0 s hs i hi n (by omega)]
    simp only [obind, Option.bind_some]
    obtain ⟨h1, h2, h3⟩ := while_fin (s := s) (p := spc) hi
    rw [skip_spc (s.drop i), ← h2] at hk
    have hd := h2
    have hij : i ≤ i + ((s.drop i).takeWhile spc).length := by omega
    generalize i + ((s.drop i).takeWhile spc).length = j at h1 h2 h3 hk hd hij ⊢
    by_cases hj : j = s.length
    · subst hj
      rw [decide_eq_true (by rfl), cond_true, bindJ_go, cond_true]
      refine .inr ⟨_, rfl, ?_⟩
      rw [← hk, List.drop_length]
      rfl
    · have hjl : j < s.length := by omega
      rw [decide_eq_false (by omega), cond_false, idx_get'' hjl, bindJ_go]
      have hc := drop_cons hjl
      rw [show decide ((s[j].toNat : Int) ≠ 35) = !decide (s[j] = 35) by rw [← byte_eq s[j] 35 35 rfl]; simp]
      have hsp : spc s[j] = false := dw_head _ _ _ (hd.symm.trans hc)
      by_cases h35 : s[j] = 35
      · simp only [h35, decide_true, Bool.not_true, cond_false]
        rw [while1 s hs j h3 n (by omega)]
        simp only [Option.bind_some]
        obtain ⟨g1, g2, g3⟩ := while_fin (s := s) (p := fun b => !decide (b = 10)) h3
        have hpos : 0 < ((s.drop j).takeWhile fun b => !decide (b = 10)).length := by
          rw [hc, List.takeWhile_cons_of_pos (by simp [h35])]; simp
        refine .inl ⟨_, rfl, ⟨_, rfl, g3, ?_⟩, by simp only; omega⟩
        rw [g2, ← hk, hc, List.dropWhile_cons_of_pos (by simp [h35]), skip_f, if_pos h35, skip_cmt]
      · simp only [h35, decide_false, Bool.not_false, cond_true]
        refine .inr ⟨_, rfl, ?_⟩
        rw [← hk, hc, skip_f, if_neg h35, hsp]
        simp only [Bool.false_eq_true, if_false, S_lexer_reader.mk.injEq, true_and, List.length_cons, List.length_drop]
        omega) n (s, (a : Int)) ⟨a, rfl, ha, rfl⟩ (by simp; omega)
  exact e
end Go.Proofs.YtgibkdldfnlglaaGreatDoor
namespace Go.Proofs.YtgibkdldfnlglaaGreatDoor
open Go.Abs Go.Lex
set_option linter.unusedSimpArgs false
set_option linter.unusedVariables false
def kwP : List (List UInt8) := [[97, 108, 108, 111, 119], [97, 110, 100], [99, 108, 105, 101, 110, 116, 115], [99, 111, 115, 116], [99, 111, 117, 110, 116, 114, 105, 101, 115], [100, 101, 102, 97, 117, 108, 116], [100, 101, 110, 121], [100, 111, 119, 110], [101, 102, 102, 101, 99, 116, 115], [101, 108, 115, 101], [102, 97, 108, 115, 101], [102, 114, 101, 115, 104], [102, 114, 111, 109], [104, 101, 97, 100, 101, 114], [105, 102], [105, 110], [108, 101, 116], [108, 111, 103], [110, 101, 103, 97, 116, 105, 118, 101], [110, 111, 116], [111, 114], [112, 97, 116, 116, 101, 114, 110], [112, 111, 108, 105, 99, 121], [112, 114, 111, 103, 114, 97, 109], [114, 101, 97, 100, 115], [114, 101, 112, 101, 97, 116], [114, 101, 112, 108, 121], [114, 117, 108, 101], [115, 101, 116], [115, 105, 103, 110, 101, 100], [115, 105, 116, 101, 115], [115, 116, 97, 108, 101], [115, 116, 97, 116, 117, 115], [116, 97, 103, 115], [116, 111], [116, 114, 117, 101], [117, 115, 101, 115], [118, 97, 114, 121], [119, 114, 105, 116, 101, 115]]
theorem words_eq : lexer_Words = some kwP := by
  unfold lexer_Words fieldsH
  rw [need_pos (by decide +kernel)]
  simp only [obind, Option.bind_some, Option.some.injEq]
  decide +kernel
theorem index_eq (l : List (List UInt8)) (hl : l.length ≤ 1000000) (v : List UInt8) (n : Nat) (hn : l.length < n) : ∃ r, slices_Index_string_string_64 n l v = some r ∧ ((0 ≤ r ∧ v ∈ l) ∨ (r = -1 ∧ v ∉ l)) := by
  unfold slices_Index_string_string_64
  obtain ⟨r, e, h⟩ := iter_inv (step := slices_Index_string_string_64_L1 l v) (fun x => ∃ i : Nat, x = (i : Int) ∧ i ≤ l.length ∧ ∀ j (h : j < l.length), j < i → l[j] ≠ v) (fun x => l.length - x.toNat)
    (fun r => (r = .go () ∧ v ∉ l) ∨ ∃ i : Int, r = .stop i ∧ 0 ≤ i ∧ v ∈ l) (by
    rintro x ⟨i, rfl, hi, hj⟩
    unfold slices_Index_string_string_64_L1
    by_cases hlt : i < l.length
    · rw [decide_eq_true (by omega), cond_true, idx_get'' hlt]
      by_cases hv : v = l[i]
      · rw [decide_eq_true hv, cond_true]
        exact .inr ⟨_, rfl, .inr ⟨_, rfl, by omega, hv ▸ List.getElem_mem hlt⟩⟩
      · rw [decide_eq_false hv, cond_false, w64 (by omega) (by omega)]
        refine .inl ⟨((i + 1 : Nat) : Int), rfl, ⟨i + 1, rfl, by omega, fun j a b => ?_⟩, by simp; omega⟩
        by_cases e : j = i
        · subst e; exact fun q => hv q.symm
        · exact hj j a (by omega)
    · rw [decide_eq_false (by omega), cond_false]
      refine .inr ⟨_, rfl, .inl ⟨rfl, fun hv => ?_⟩⟩
      obtain ⟨j, a, e⟩ := List.getElem_of_mem hv
      exact hj j a (by omega) e) n 0 ⟨0, rfl, by omega, fun j a b => by omega⟩ (by simp; omega)
  rw [e]
  rcases h with ⟨rfl, h⟩ | ⟨i, rfl, h0, h⟩
  · exact ⟨-1, rfl, .inr ⟨rfl, h⟩⟩
  · exact ⟨i, rfl, .inl ⟨h0, h⟩⟩
theorem contains_eq (l : List (List UInt8)) (hl : l.length ≤ 1000000) (v : List UInt8) (n : Nat) (hn : l.length < n) : slices_Contains_string_string_34 n l v = some (decide (v ∈ l)) := by
  unfold slices_Contains_string_string_34
  obtain ⟨r, e, h⟩ := index_eq l hl v n hn
  rw [e]
  simp only [obind, Option.bind_some, Option.some.injEq]
  rw [decide_eq_decide]
  rcases h with ⟨h0, h⟩ | ⟨rfl, h⟩
  · exact ⟨fun _ => h, fun _ => h0⟩
  · exact ⟨fun q => by omega, fun q => absurd q h⟩
theorem word_eq (v : List UInt8) (n : Nat) (hn : 100 < n) : lexer_Word n v = some (decide (v ∈ kwP)) := by
  unfold lexer_Word
  rw [words_eq]
  simp only [obind, Option.bind_some]
  rw [contains_eq kwP (by decide +kernel) v n (by have h : kwP.length = 39 := (by decide +kernel); omega)]
  rfl
/-- a token read, or the panic -/
def resP (s : List UInt8) : Sum Int (Int × List UInt8 × List UInt8) → Pn (S_api_Lexeme × S_lexer_reader)
  | .inl e => .pan e
  | .inr (k, w, r) => .ret (⟨k, 0, w⟩, ⟨s, ((s.length - r.length : Nat) : Int)⟩)
theorem fail_eq (b : Bool) (e : Int) : lexer_fail b e = some (if b then .pan e else .ret ()) := by cases b <;> rfl
theorem name_eq (s : List UInt8) (hs : s.length ≤ 1000000) (a : Nat) (ha : a ≤ s.length) (n : Nat) (hn : s.length + 100 < n) :
    weirgate_lexer_reader_name_42 n ⟨s, a⟩ = some (resP s (namP kwP (s.drop a))) := by
  unfold weirgate_lexer_reader_name_42 namP
  rw [while2 s hs a ha n (by omega)]
  simp only [obind, Option.bind_some]
  rw [word_eq _ n (by omega)]
  simp only [Option.bind_some]
  obtain ⟨h1, h2, h3⟩ := while_fin (s := s) (p := rst) ha
  have hl := congrArg List.length h2
  rw [List.length_drop] at hl
  have hat : ((a + ((s.drop a).takeWhile rst).length : Nat) : Int) = ((s.length - ((s.drop a).dropWhile rst).length : Nat) : Int) := by omega
  by_cases hw : (s.drop a).takeWhile rst ∈ kwP
  · rw [decide_eq_true hw, cond_true, if_pos hw, hat]
    rfl
  · rw [decide_eq_false hw, cond_false, if_neg hw, fail_eq, hat]
    by_cases h40 : 40 < ((s.drop a).takeWhile rst).length
    · rw [decide_eq_true (by omega), if_pos h40]
      rfl
    · rw [decide_eq_false (by omega), if_neg h40]
      rfl
/-- the byte that follows -/
def nextB (l : List UInt8) : Int := match l with | [] => 32 | c :: _ => (c.toNat : Int)
theorem number_eq (s : List UInt8) (hs : s.length ≤ 1000000) (a : Nat) (ha : a < s.length) (hd : dg s[a] = true) (n : Nat) (hn : s.length + 100 < n) :
    weirgate_lexer_reader_number_44 n ⟨s, a⟩ = some (resP s (numP (s.drop a))) := by
  unfold weirgate_lexer_reader_number_44 numP
  rw [while3 s hs a (by omega) n (by omega)]
  simp only [obind, Option.bind_some]
  obtain ⟨h1, h2, h3⟩ := while_fin (s := s) (p := dg) (show a ≤ s.length by omega)
  have hl := congrArg List.length h2
  rw [List.length_drop] at hl
  have hat : ((a + ((s.drop a).takeWhile dg).length : Nat) : Int) = ((s.length - ((s.drop a).dropWhile dg).length : Nat) : Int) := by omega
  have htw : (s.drop a).takeWhile dg = s[a] :: (s.drop (a + 1)).takeWhile dg := by rw [drop_cons ha, List.takeWhile_cons_of_pos hd]
  have hnext : ∀ {R : Type} (k : Int → Option R), bindJ (S := Int) (cond (decide (((a + ((s.drop a).takeWhile dg).length : Nat) : Int) < (s.length : Int)))
      (idx s ((a + ((s.drop a).takeWhile dg).length : Nat) : Int) fun c10 => some (.go (c10.toNat : Int))) (some (.go 32))) k = k (nextB ((s.drop a).dropWhile dg)) := by
    intro R k
    by_cases hj : a + ((s.drop a).takeWhile dg).length < s.length
    · rw [decide_eq_true (by omega), cond_true, idx_get'' hj, bindJ_go, ← h2, drop_cons hj]
      rfl
    · rw [decide_eq_false (by omega), cond_false, bindJ_go]
      have : (s.drop a).dropWhile dg = [] := by
        apply List.eq_nil_of_length_eq_zero
        omega
      rw [this]
      rfl
  rw [hnext]
  have hfirst : ∀ {R : Type} (k : Bool → Option R), bindJ (S := Bool) (cond (decide (18 < (((s.drop a).takeWhile dg).length : Int))) (some (.go true))
      (idx ((s.drop a).takeWhile dg) 0 fun c17 => some (.go (decide ((c17.toNat : Int) = 48) && decide (1 < (((s.drop a).takeWhile dg).length : Int)))))) k
      = k (decide (18 < ((s.drop a).takeWhile dg).length) || (decide (((s.drop a).takeWhile dg).head? = some 48) && decide (1 < ((s.drop a).takeWhile dg).length))) := by
    intro R k
    by_cases h18 : 18 < ((s.drop a).takeWhile dg).length
    · rw [decide_eq_true (by omega), cond_true, bindJ_go, decide_eq_true h18, Bool.true_or]
    · rw [decide_eq_false (by omega), cond_false, htw]
      rw [show (0 : Int) = ((0 : Nat) : Int) from rfl, idx_get'' (by simp), bindJ_go]
      rw [htw] at h18
      simp only [List.getElem_cons_zero, List.head?_cons]
      rw [byte_eq s[a] 48 48 rfl, decide_eq_false h18, Bool.false_or]
      congr 2
      · by_cases h48 : s[a] = 48 <;> simp [h48]
      · rw [decide_eq_decide]; omega
  rw [hfirst]
  have hbad : ∀ (q : Bool) (l : List UInt8), ∃ b : Bool, (bindJ (S := Bool) (cond q (some (.go true)) ((lexer_isRest (nextB l)).bind fun r27 => some (.go r27))) fun b21 =>
      some (b21 || (decide ((65 : Int) ≤ (nextB l)) && decide ((nextB l) ≤ 90)))) = some b ∧ b = (q || (match l with | [] => false | c :: _ => ltr c)) := by
    intro q l
    cases l with
    | nil => cases q <;> exact ⟨_, rfl, rfl⟩
    | cons c t =>
      unfold nextB
      simp only
      rw [rest_eq]
      refine ⟨q || ltr c, ?_, rfl⟩
      have : (decide ((65 : Int) ≤ (c.toNat : Int)) && decide ((c.toNat : Int) ≤ 90)) = (decide (65 ≤ c.toNat) && decide (c.toNat ≤ 90)) := by
        rw [Bool.eq_iff_iff]; simp only [Bool.and_eq_true, decide_eq_true_eq]; omega
      unfold ltr
      cases q <;> simp [bindJ_go, this]
  have hb2 : ∀ (q : Bool) (k : Bool → Option (Pn (S_api_Lexeme × S_lexer_reader))), (bindJ (S := Bool) (cond q (some (.go true)) ((lexer_isRest (nextB ((s.drop a).dropWhile dg))).bind fun r27 => some (.go r27))) fun b21 =>
      k (b21 || (decide ((65 : Int) ≤ (nextB ((s.drop a).dropWhile dg))) && decide ((nextB ((s.drop a).dropWhile dg)) ≤ 90)))) = k (q || (match (s.drop a).dropWhile dg with | [] => false | c :: _ => ltr c)) := by
    intro q k
    obtain ⟨b, e, hb⟩ := hbad q ((s.drop a).dropWhile dg)
    rw [← hb]
    revert e
    cases q with
    | true => simp only [cond_true, bindJ_go, Option.some.injEq]; intro e; rw [e]
    | false =>
      simp only [cond_false]
      cases lexer_isRest (nextB ((s.drop a).dropWhile dg)) with
      | none => intro e; cases e
      | some v => simp only [Option.bind_some, bindJ_go, Option.some.injEq]; intro e; rw [e]
  rw [hb2 _ (fun b => (lexer_fail b 181).bind _)]
  rw [fail_eq, hat]
  unfold badNum
  cases hB : (decide (18 < ((s.drop a).takeWhile dg).length) || (decide (((s.drop a).takeWhile dg).head? = some 48) && decide (1 < ((s.drop a).takeWhile dg).length)) || (match (s.drop a).dropWhile dg with | [] => false | c :: _ => ltr c)) <;> rfl
end Go.Proofs.YtgibkdldfnlglaaGreatDoor
namespace Go.Proofs.YtgibkdldfnlglaaGreatDoor
open Go.Abs Go.Lex
set_option linter.unusedSimpArgs false
set_option linter.unusedVariables false
theorem idxN_mem (c : UInt8) : ∀ l : List UInt8, (idxN c l).isSome = decide (c ∈ l)
  | [] => by simp [idxN]
  | b :: l => by
    have ih := idxN_mem c l
    unfold idxN
    by_cases h : b = c
    · simp [h]
    · have h' : ¬ c = b := fun q => h q.symm
      simp [h, h', ih]
theorem idx_in (c : UInt8) (l : List UInt8) : ∃ r, idxH l (c.toNat : Int) = some r ∧ ((0 ≤ r ∧ c ∈ l) ∨ (r = -1 ∧ c ∉ l)) := by
  have h := idxN_mem c l
  unfold idxH idxP
  rw [show ((c.toNat : Int)).toNat.toUInt8 = c by simp]
  cases hn : idxN c l with
  | none =>
    rw [hn] at h
    exact ⟨-1, rfl, .inr ⟨rfl, by simpa using h⟩⟩
  | some k =>
    rw [hn] at h
    exact ⟨k, rfl, .inl ⟨by omega, by simpa using h⟩⟩
/-- the next byte is the end, or a quotation mark, or a byte of the text -/
theorem text_loop (s : List UInt8) (hs : s.length ≤ 1000000) (a : Nat) (ha : a ≤ s.length) (n : Nat) (hn : s.length + 100 < n) :
    ∃ r, iter (weirgate_lexer_reader_text_46_L1 ⟨s, ((a : Nat) : Int)⟩) n (([] : List UInt8), (a : Int)) = some r ∧
      ((∃ (out : List UInt8) (i : Nat), r = .go (out, (i : Int)) ∧ i ≤ s.length ∧ (i = s.length ∨ ∃ h : i < s.length, s[i] = 34) ∧ txtP out (s.drop i) = txtP [] (s.drop a)) ∨ (r = .stop (.pan 182) ∧ txtP [] (s.drop a) = .inl 182)) := by
  refine iter_inv (step := weirgate_lexer_reader_text_46_L1 ⟨s, ((a : Nat) : Int)⟩) (fun x => ∃ (out : List UInt8) (i : Nat), x = (out, (i : Int)) ∧ i ≤ s.length ∧ out.length ≤ i ∧ txtP out (s.drop i) = txtP [] (s.drop a)) (fun x => s.length - x.2.toNat) _ ?_ n ([], (a : Int)) ⟨[], a, rfl, ha, by simp, rfl⟩ (by simp; omega)
  rintro x ⟨out, i, rfl, hi, ho, hk⟩
  unfold weirgate_lexer_reader_text_46_L1
  simp only
  by_cases hlt : i < s.length
  · rw [decide_eq_true (show (i : Int) < (s.length : Int) by omega), cond_true, idx_get'' hlt, bindJ_go]
    rw [show decide ((s[i].toNat : Int) ≠ 34) = !decide (s[i] = 34) by rw [← byte_eq s[i] 34 34 rfl]; simp]
    by_cases h34 : s[i] = 34
    · rw [decide_eq_true h34, Bool.not_true, cond_false]
      exact .inr ⟨_, rfl, .inl ⟨out, i, rfl, hi, .inr ⟨hlt, h34⟩, hk⟩⟩
    · rw [decide_eq_false h34, Bool.not_false, cond_true, idx_get'' hlt]
      have hc := drop_cons hlt
      rw [hc, txt_cons, if_neg h34] at hk
      by_cases h92 : s[i] = 92
      · rw [byte_eq s[i] 92 92 rfl, decide_eq_true h92, cond_true]
        rw [if_pos h92] at hk
        rw [w64 (x := (i : Int) + 1) (by omega) (by omega), show (i : Int) + 1 = ((i + 1 : Nat) : Int) by omega]
        by_cases hl2 : i + 1 < s.length
        · rw [decide_eq_true (by omega), cond_true, idx_get'' hl2]
          obtain ⟨r, e, h⟩ := idx_in s[i + 1] [34, 92]
          rw [e]
          simp only [obind, Option.bind_some, bindJ_go]
          rw [drop_cons hl2] at hk
          simp only at hk
          rcases h with ⟨h0, hm⟩ | ⟨rfl, hm⟩
          · rw [decide_eq_true h0, cond_true, idx_get'' hl2]
            have hm' : s[i + 1] = 34 ∨ s[i + 1] = 92 := by simpa using hm
            rw [if_pos hm'] at hk
            simp only [bindJ_go]
            have hr : 32 ≤ s[i + 1].toNat ∧ s[i + 1].toNat ≤ 126 := by rcases hm' with h | h <;> rw [h] <;> decide
            rw [fail_eq, decide_eq_false (show ¬ ((s[i + 1].toNat : Nat) : Int) < 32 by omega), decide_eq_false (show ¬ (126 : Int) < ((s[i + 1].toNat : Nat) : Int) by omega)]
            simp only [Bool.or_self, Bool.false_eq_true, if_false, Option.bind_some, pbind]
            rw [need_pos (by omega), need_pos (by simp; omega), w64 (by omega) (by omega)]
            refine .inl ⟨_, rfl, ⟨out ++ [s[i + 1]], i + 2, ?_, by omega, by simp; omega, hk⟩, by simp only; omega⟩
            simp
            omega
          · rw [decide_eq_false (by omega), cond_false]
            have hm' : ¬ (s[i + 1] = 34 ∨ s[i + 1] = 92) := by simpa using hm
            rw [if_neg hm'] at hk
            simp only [bindJ_go]
            rw [fail_eq, decide_eq_true (show (0 : Int) < 32 by decide)]
            simp only [Bool.true_or, if_true, Option.bind_some, pbind]
            exact .inr ⟨_, rfl, .inr ⟨rfl, hk.symm⟩⟩
        · rw [decide_eq_false (by omega), cond_false]
          have : s.drop (i + 1) = [] := List.drop_eq_nil_of_le (by omega)
          rw [this] at hk
          simp only [bindJ_go, cond_false]
          rw [fail_eq, decide_eq_true (show (0 : Int) < 32 by decide)]
          simp only [obind, Bool.true_or, if_true, Option.bind_some, pbind]
          exact .inr ⟨_, rfl, .inr ⟨rfl, hk.symm⟩⟩
      · rw [byte_eq s[i] 92 92 rfl, decide_eq_false h92, cond_false]
        rw [if_neg h92] at hk
        simp only [bindJ_go]
        rw [fail_eq]
        by_cases hb : s[i].toNat < 32 ∨ 126 < s[i].toNat
        · rw [if_pos hb] at hk
          rw [show (decide (((s[i].toNat : Nat) : Int) < 32) || decide ((126 : Int) < ((s[i].toNat : Nat) : Int))) = true by simp only [Bool.or_eq_true, decide_eq_true_eq]; omega]
          simp only [obind, if_true, Option.bind_some, pbind]
          exact .inr ⟨_, rfl, .inr ⟨rfl, hk.symm⟩⟩
        · rw [if_neg hb] at hk
          rw [show (decide (((s[i].toNat : Nat) : Int) < 32) || decide ((126 : Int) < ((s[i].toNat : Nat) : Int))) = false by rw [Bool.eq_false_iff]; intro h; simp only [Bool.or_eq_true, decide_eq_true_eq] at h; omega]
          simp only [obind, Bool.false_eq_true, if_false, Option.bind_some, pbind]
          rw [need_pos (by omega), need_pos (by simp; omega), w64 (by omega) (by omega)]
          refine .inl ⟨_, rfl, ⟨out ++ [s[i]], i + 1, ?_, by omega, by simp; omega, hk⟩, by simp only; omega⟩
          simp
  · rw [decide_eq_false (by omega), cond_false, bindJ_go, cond_false]
    exact .inr ⟨_, rfl, .inl ⟨out, i, rfl, hi, .inl (by omega), hk⟩⟩
theorem text_eq (s : List UInt8) (hs : s.length ≤ 1000000) (a : Nat) (ha : a < s.length) (n : Nat) (hn : s.length + 100 < n) :
    weirgate_lexer_reader_text_46 n ⟨s, a⟩ = some (resP s (txtP [] (s.drop (a + 1)))) := by
  unfold weirgate_lexer_reader_text_46
  simp only
  rw [w64 (by omega) (by omega), show (a : Int) + 1 = ((a + 1 : Nat) : Int) by omega]
  have hstep : weirgate_lexer_reader_text_46_L1 ⟨s, ((a : Nat) : Int)⟩ = weirgate_lexer_reader_text_46_L1 ⟨s, ((a + 1 : Nat) : Int)⟩ := rfl
  obtain ⟨r, e, h⟩ := text_loop s hs (a + 1) (by omega) n hn
  rw [hstep, e]
  rcases h with ⟨out, i, rfl, hi, hend, hk⟩ | ⟨rfl, hk⟩
  · rw [bindJ_go, ← hk]
    simp only
    rcases hend with rfl | ⟨h, h34⟩
    · rw [decide_eq_true (by omega), Bool.true_or, fail_eq, List.drop_length, txt_nil]
      rfl
    · rw [decide_eq_false (by omega), Bool.false_or, fail_eq, drop_cons h, txt_cons, if_pos h34]
      by_cases h200 : 200 < out.length
      · rw [decide_eq_true (by omega), if_pos h200]
        rfl
      · rw [decide_eq_false (by omega), if_neg h200]
        simp only [obind, Bool.false_eq_true, if_false, Option.bind_some, pbind, resP, List.length_drop]
        rw [w64 (by omega) (by omega)]
        congr 4
        omega
  · rw [bindJ_stop, hk]
    rfl
theorem signs_eq : fieldsH [61, 61, 32, 33, 61, 32, 60, 61, 32, 62, 61, 32, 46, 46] = some longs := by
  unfold fieldsH
  rw [need_pos (by decide +kernel)]
  simp only [Option.some.injEq]
  decide +kernel
theorem sign_eq (s : List UInt8) (hs : s.length ≤ 1000000) (a : Nat) (ha : a < s.length) (n : Nat) (hn : s.length + 100 < n) :
    weirgate_lexer_reader_sign_48 n ⟨s, a⟩ = some (resP s (sgnP (s.drop a))) := by
  unfold weirgate_lexer_reader_sign_48
  simp only
  rw [w64 (x := (a : Int) + 2) (by omega) (by omega)]
  have hmin : (min ((a : Int) + 2) (s.length : Int)).toNat = min (a + 2) s.length := by omega
  rw [need_pos (by omega), hmin, Int.toNat_natCast]
  have htwo : (s.take (min (a + 2) s.length)).drop a = (s.drop a).take 2 := by
    rw [List.drop_take]
    apply List.ext_getElem
    · simp; omega
    · intro i h1 h2; simp
  rw [htwo]
  have hlong : longs.length < n := by have : longs.length = 5 := rfl; omega
  have h1 : ∀ k : Nat, a + k ≤ s.length → (s.take (a + k)).drop a = (s.drop a).take k := fun k _ => by rw [List.drop_take, Nat.add_sub_cancel_left]
  have hc := drop_cons ha
  by_cases h2 : a + 1 < s.length
  · have hc2 := drop_cons h2
    have ht : (s.drop a).take 2 = [s[a], s[a + 1]] := by rw [hc, hc2]; rfl
    have ht1 : (s.drop a).take 1 = [s[a]] := by rw [hc]; rfl
    rw [ht, show decide ((([s[a], s[a + 1]] : List UInt8).length : Int) = 2) = true from rfl, cond_true, signs_eq]
    simp only [obind, Option.bind_some]
    rw [contains_eq longs (by decide) _ n hlong, hc, hc2, sgn_two]
    rw [hc] at ht ht1 h1
    rw [hc2] at ht h1
    simp only [Option.bind_some, bindJ_go]
    by_cases hm : [s[a], s[a + 1]] ∈ longs
    · rw [decide_eq_true hm, cond_true, bindJ_go, if_pos hm, w64 (by omega) (by omega), show (a : Int) + 2 = ((a + 2 : Nat) : Int) by omega, need_pos (by omega), show decide ((2 : Int) = 1) = false from rfl, cond_false, bindJ_go, fail_eq, Int.toNat_natCast, h1 2 (by omega), ht]
      simp only [Bool.false_eq_true, if_false, Option.bind_some, pbind, resP, List.length_drop]
      congr 4
      omega
    · rw [decide_eq_false hm, cond_false, bindJ_go, if_neg hm, w64 (by omega) (by omega), show (a : Int) + 1 = ((a + 1 : Nat) : Int) by omega, need_pos (by omega), show decide ((1 : Int) = 1) = true from rfl, cond_true, Int.toNat_natCast, h1 1 (by omega), show (s[a] :: s[a + 1] :: s.drop (a + 1 + 1)).take 1 = [s[a]] from rfl]
      rw [show (0 : Int) = ((0 : Nat) : Int) from rfl, idx_get'' (by simp)]
      obtain ⟨r, e, h⟩ := idx_in s[a] shorts
      unfold shorts at e h
      simp only [List.getElem_cons_zero]
      rw [e]
      simp only [Option.bind_some, bindJ_go]
      rw [fail_eq]
      rcases h with ⟨h0, hm'⟩ | ⟨rfl, hm'⟩
      · rw [decide_eq_false (by omega), if_pos (show s[a] ∈ shorts from hm')]
        simp only [Bool.false_eq_true, if_false, Option.bind_some, pbind, resP, List.length_cons, List.length_drop]
        congr 4
        omega
      · rw [decide_eq_true (by omega), if_neg (show s[a] ∉ shorts from hm')]
        rfl
  · have hn2 : s.drop (a + 1) = [] := List.drop_eq_nil_of_le (by omega)
    have ht : (s.drop a).take 2 = [s[a]] := by rw [hc, hn2]; rfl
    have ht1 : (s.drop a).take 1 = [s[a]] := by rw [hc, hn2]; rfl
    rw [ht, show decide ((([s[a]] : List UInt8).length : Int) = 2) = false from rfl, show sgnP (s.drop a) = sgnP [s[a]] by rw [hc, hn2], cond_false, bindJ_go, cond_false, bindJ_go, sgn_one, w64 (by omega) (by omega), show (a : Int) + 1 = ((a + 1 : Nat) : Int) by omega, need_pos (by omega), show decide ((1 : Int) = 1) = true from rfl, cond_true, Int.toNat_natCast, h1 1 (by omega), ht1]
    rw [show (0 : Int) = ((0 : Nat) : Int) from rfl, idx_get'' (by simp)]
    obtain ⟨r, e, h⟩ := idx_in s[a] shorts
    unfold shorts at e h
    simp only [List.getElem_cons_zero]
    rw [e]
    simp only [obind, Option.bind_some, bindJ_go]
    rw [fail_eq]
    rcases h with ⟨h0, hm'⟩ | ⟨rfl, hm'⟩
    · rw [decide_eq_false (by omega), if_pos (show s[a] ∈ shorts from hm')]
      simp only [Bool.false_eq_true, if_false, Option.bind_some, pbind, resP, List.length_nil]
      congr 4
      omega
    · rw [decide_eq_true (by omega), if_neg (show s[a] ∉ shorts from hm')]
      rfl
/-! the tokens of a source -/
def mkT (N : Nat) (x : Int × Nat × List UInt8) : S_api_Lexeme := ⟨x.1, ((N - x.2.1 : Nat) : Int), x.2.2⟩
/-- what Tokens returns -/
def tokR (s : List UInt8) : List S_api_Lexeme × S_api_Problem := match (toksP kwP (s.length + 1) s).2 with
  | some (k, e) => ([], ⟨((s.length - k : Nat) : Int), e⟩)
  | none => ((toksP kwP (s.length + 1) s).1.map (mkT s.length), ⟨0, 0⟩)
end Go.Proofs.YtgibkdldfnlglaaGreatDoor
namespace Go.Proofs.YtgibkdldfnlglaaGreatDoor
open Go.Abs Go.Lex
set_option linter.unusedSimpArgs false
set_option linter.unusedVariables false
theorem tok_step (s : List UInt8) (hs : s.length ≤ 1000000) (a : Nat) (ha : a < s.length) (n : Nat) (hn : s.length + 100 < n) (l : List S_api_Lexeme) (hl : l.length ≤ 1000000) {R : Type} (k : List S_api_Lexeme × List UInt8 × Int → Option (Lp ((List S_api_Lexeme) × (List UInt8) × Int × Int) (Lp (List S_api_Lexeme) (List S_api_Lexeme × S_api_Problem)))) :
    bindJ (S := (List S_api_Lexeme) × (List UInt8) × Int)
    (idx s (a : Int) fun c38 =>
    obind (lexer_isSmall (c38.toNat : Int)) fun r39 =>
    cond r39
     (obind (weirgate_lexer_reader_name_42 n (S_lexer_reader.mk s (a : Int))) fun r42 =>
     pbind r42 (fun e45 =>
      some (.stop (.stop (.stop (([] : List S_api_Lexeme), (S_api_Problem.mk (a : Int) e45)))))) fun q44 =>
     need (l.length + ([(S_api_Lexeme.mk q44.1.Kind (a : Int) q44.1.S)] : List S_api_Lexeme).length ≤ 4294967296) (
     some (.go ((l ++ ([(S_api_Lexeme.mk q44.1.Kind (a : Int) q44.1.S)] : List S_api_Lexeme)), q44.2.s_, q44.2.at_))))
     (idx s (a : Int) fun c54 =>
     obind (lexer_isDigit (c54.toNat : Int)) fun r55 =>
     cond r55
      (obind (weirgate_lexer_reader_number_44 n (S_lexer_reader.mk s (a : Int))) fun r58 =>
      pbind r58 (fun e61 =>
       some (.stop (.stop (.stop (([] : List S_api_Lexeme), (S_api_Problem.mk (a : Int) e61)))))) fun q60 =>
      need (l.length + ([(S_api_Lexeme.mk q60.1.Kind (a : Int) q60.1.S)] : List S_api_Lexeme).length ≤ 4294967296) (
      some (.go ((l ++ ([(S_api_Lexeme.mk q60.1.Kind (a : Int) q60.1.S)] : List S_api_Lexeme)), q60.2.s_, q60.2.at_))))
      (idx s (a : Int) fun c70 =>
      obind (lexer_forms_1_45 (c70.toNat : Int)) fun r71 =>
      cond r71
       (obind (weirgate_lexer_reader_text_46 n (S_lexer_reader.mk s (a : Int))) fun r74 =>
       pbind r74 (fun e77 =>
        some (.stop (.stop (.stop (([] : List S_api_Lexeme), (S_api_Problem.mk (a : Int) e77)))))) fun q76 =>
       need (l.length + ([(S_api_Lexeme.mk q76.1.Kind (a : Int) q76.1.S)] : List S_api_Lexeme).length ≤ 4294967296) (
       some (.go ((l ++ ([(S_api_Lexeme.mk q76.1.Kind (a : Int) q76.1.S)] : List S_api_Lexeme)), q76.2.s_, q76.2.at_))))
       (idx s (a : Int) fun c86 =>
       obind (lexer_forms_2_47 (c86.toNat : Int)) fun r87 =>
       cond r87
        (obind (weirgate_lexer_reader_sign_48 n (S_lexer_reader.mk s (a : Int))) fun r90 =>
        pbind r90 (fun e93 =>
         some (.stop (.stop (.stop (([] : List S_api_Lexeme), (S_api_Problem.mk (a : Int) e93)))))) fun q92 =>
        need (l.length + ([(S_api_Lexeme.mk q92.1.Kind (a : Int) q92.1.S)] : List S_api_Lexeme).length ≤ 4294967296) (
        some (.go ((l ++ ([(S_api_Lexeme.mk q92.1.Kind (a : Int) q92.1.S)] : List S_api_Lexeme)), q92.2.s_, q92.2.at_))))
        (some (.go (l, s, (a : Int)))))))) k
    = match nextP kwP (s.drop a) with
      | .inl e => some (.stop (.stop ([], ⟨(a : Int), e⟩)))
      | .inr (kd, w, r) => k (l ++ [⟨kd, (a : Int), w⟩], s, ((s.length - r.length : Nat) : Int)) := by
  have hneed : ∀ x : S_api_Lexeme, l.length + ([x] : List S_api_Lexeme).length ≤ 4294967296 := fun x => by simp; omega
  have hfin : ∀ q : Sum Int (Int × List UInt8 × List UInt8), bindJ (S := (List S_api_Lexeme) × (List UInt8) × Int) (obind (some (resP s q)) fun r42 =>
     pbind r42 (fun e45 =>
      some (.stop (.stop (.stop (([] : List S_api_Lexeme), (S_api_Problem.mk (a : Int) e45)))))) fun q44 =>
     need (l.length + ([(S_api_Lexeme.mk q44.1.Kind (a : Int) q44.1.S)] : List S_api_Lexeme).length ≤ 4294967296) (
     some (.go ((l ++ ([(S_api_Lexeme.mk q44.1.Kind (a : Int) q44.1.S)] : List S_api_Lexeme)), q44.2.s_, q44.2.at_)))) k
      = match q with
      | .inl e => some (.stop (.stop ([], ⟨(a : Int), e⟩)))
      | .inr (kd, w, r) => k (l ++ [⟨kd, (a : Int), w⟩], s, ((s.length - r.length : Nat) : Int)) := by
    intro q
    cases q with
    | inl e => rfl
    | inr q =>
      obtain ⟨kd, w, r⟩ := q
      simp only [resP, obind, Option.bind_some, pbind]
      rw [need_pos (hneed _), bindJ_go]
  have hc := drop_cons ha
  rw [idx_get'' ha, small_eq]
  have hne := next_cons kwP s[a] (s.drop (a + 1))
  rw [← hc] at hne
  rw [hne]
  cases h1 : sm s[a] with
  | true =>
    simp only [obind, Option.bind_some, cond_true, if_true]
    rw [name_eq s hs a (by omega) n hn]
    exact hfin _
  | false =>
    simp only [obind, Option.bind_some, cond_false, Bool.false_eq_true, if_false]
    rw [idx_get'' ha, digit_eq]
    cases h2 : dg s[a] with
    | true =>
      simp only [Option.bind_some, cond_true, if_true]
      rw [number_eq s hs a ha h2 n hn]
      exact hfin _
    | false =>
      simp only [Option.bind_some, cond_false, Bool.false_eq_true, if_false]
      rw [idx_get'' ha]
      unfold lexer_forms_1_45
      rw [byte_eq s[a] 34 34 rfl]
      by_cases h3 : s[a] = 34
      · simp only [h3, decide_true, Option.bind_some, cond_true, if_true]
        rw [text_eq s hs a ha n hn]
        exact hfin _
      · simp only [h3, decide_false, Option.bind_some, cond_false, if_false]
        rw [idx_get'' ha]
        unfold lexer_forms_2_47
        simp only [Option.bind_some, cond_true]
        rw [sign_eq s hs a ha n hn]
        exact hfin _
theorem tokens_loop (s : List UInt8) (hs : s.length ≤ 1000000) (n : Nat) (hn : s.length + 100 < n) :
    ∃ r, iter (lexer_Tokens_L1 n s) n (([] : List S_api_Lexeme), s, ((s.length - (skipP false s).length : Nat) : Int), 0) = some r ∧
      ((r = .go ((toksP kwP (s.length + 1) s).1.map (mkT s.length)) ∧ (toksP kwP (s.length + 1) s).2 = none) ∨ ∃ k e, r = .stop ([], ⟨((s.length - k : Nat) : Int), e⟩) ∧ (toksP kwP (s.length + 1) s).2 = some (k, e)) := by
  refine iter_inv (step := lexer_Tokens_L1 n s) (fun x => ∃ (d : List (Int × Nat × List UInt8)) (i : Nat) (z : Int), x = (d.map (mkT s.length), s, (i : Int), z) ∧ i ≤ s.length ∧ d.length ≤ i ∧ skipP false (s.drop i) = s.drop i ∧
      (toksP kwP (s.length + 1) s).1 = d ++ (toksP kwP (s.length + 1) (s.drop i)).1 ∧ (toksP kwP (s.length + 1) s).2 = (toksP kwP (s.length + 1) (s.drop i)).2) (fun x => s.length - x.2.2.1.toNat) _ ?_ n _ ?_ (by simp; omega)
  · rintro x ⟨d, i, z, rfl, hi, hd, hk, e1, e2⟩
    unfold lexer_Tokens_L1
    simp only
    by_cases hlt : i < s.length
    · rw [decide_eq_true (show (i : Int) < (s.length : Int) by omega), cond_true, tok_step (R := Unit) s hs i hlt n hn (d.map (mkT s.length)) (by simp; omega)]
      have hc := drop_cons hlt
      rw [hc] at hk
      cases hq : nextP kwP (s.drop i) with
      | inl e =>
        rw [hc] at hq
        rw [hc, toks_inl hk hq] at e2
        refine .inr ⟨_, rfl, .inr ⟨_, e, ?_, e2⟩⟩
        simp only [List.length_drop, Lp.stop.injEq, Prod.mk.injEq, S_api_Problem.mk.injEq, true_and, and_true]
        omega
      | inr q =>
        obtain ⟨kd, w, r⟩ := q
        simp only
        have hlen := next_len hq
        have hsuf := (next_suf hq).trans (List.drop_suffix i s)
        rw [hc] at hq
        rw [hc, toks_inr hk hq] at e1 e2
        have hrl : r.length ≤ s.length := hsuf.length_le
        rw [space_eq s hs _ (by omega) n (by omega), suf_drop hsuf]
        simp only [obind, Option.bind_some]
        have hsk := skip_suffix false r
        have hsl := hsk.length_le
        rw [List.length_drop] at hlen
        refine .inl ⟨_, rfl, ⟨d ++ [(kd, s.length - i, w)], s.length - (skipP false r).length, (i : Int), ?_, by omega, by simp; omega, ?_, ?_, ?_⟩, by simp only; omega⟩
        · simp only [List.map_append, List.map_cons, List.map_nil, Prod.mk.injEq, and_true]
          congr 2
          unfold mkT
          simp only [S_api_Lexeme.mk.injEq, true_and, and_true]
          omega
        · rw [suf_drop (hsk.trans hsuf), skip_idem]
        · rw [suf_drop (hsk.trans hsuf), toks_skip, e1]
          simp only [List.length_drop, List.append_assoc, List.cons_append, List.nil_append]
          rw [toks_fuel kwP s.length (s.length + 1) r (by omega) (by omega), show s.length - (i + 1) + 1 = s.length - i by omega]
        · rw [suf_drop (hsk.trans hsuf), toks_skip, e2]
          simp only
          rw [toks_fuel kwP s.length (s.length + 1) r (by omega) (by omega)]
    · rw [decide_eq_false (by omega), cond_false]
      have : s.drop i = [] := List.drop_eq_nil_of_le (by omega)
      rw [this, toks_nil (kw := kwP) (s := []) rfl] at e1 e2
      refine .inr ⟨_, rfl, .inl ⟨?_, e2⟩⟩
      rw [e1, List.append_nil]
  · have hsk := skip_suffix false s
    refine ⟨[], s.length - (skipP false s).length, 0, rfl, by omega, by simp, ?_, ?_, ?_⟩
    · rw [suf_drop hsk, skip_idem]
    · rw [suf_drop hsk, toks_skip]; rfl
    · rw [suf_drop hsk, toks_skip]
theorem tokens_eq (s : List UInt8) (hs : s.length ≤ 65536) (n : Nat) (hn : s.length + 100 < n) : lexer_Tokens n s = some (tokR s) := by
  unfold lexer_Tokens
  rw [decide_eq_false (by omega), cond_false]
  unfold lexer_forms
  simp only [obind, Option.bind_some]
  have h0 := space_eq s (by omega) 0 (by omega) n (by omega)
  rw [List.drop_zero] at h0
  have h0' : weirgate_lexer_reader_space_28 n ⟨s, 0⟩ = _ := h0
  rw [h0']
  simp only [Option.bind_some]
  obtain ⟨r, e, h⟩ := tokens_loop s (by omega) n hn
  rw [e]
  unfold tokR
  rcases h with ⟨rfl, h2⟩ | ⟨k, e, rfl, h2⟩
  · rw [h2]; rfl
  · rw [h2]; rfl
theorem tokens_long (s : List UInt8) (hs : 65536 < s.length) (n : Nat) : lexer_Tokens n s = some ([], ⟨0, 2⟩) := by
  unfold lexer_Tokens
  rw [decide_eq_true (by omega)]
  rfl
theorem sane (n : Nat) : law18_sanity (n + 60) = some true := by kernel_rfl
end Go.Proofs.YtgibkdldfnlglaaGreatDoor
namespace Go.Proofs.YtgibkdldfnlglaaGreatDoor
open Go.Abs
set_option linter.unusedVariables false
set_option linter.unusedSimpArgs false
set_option maxRecDepth 20000
set_option maxHeartbeats 4000000

end Go.Proofs.YtgibkdldfnlglaaGreatDoor
namespace Go.Proofs.YtgibkdldfnlglaaGreatDoor
open Go.Abs Go.Lex
set_option linter.unusedSimpArgs false
set_option linter.unusedVariables false
end Go.Proofs.YtgibkdldfnlglaaGreatDoor
namespace Go.Proofs.YtgibkdldfnlglaaGreatDoor
open Go.Abs Go.Lex
set_option linter.unusedSimpArgs false
set_option linter.unusedVariables false
/-! places -/
end Go.Proofs.YtgibkdldfnlglaaGreatDoor
namespace Go.Proofs.YtgibkdldfnlglaaGreatDoor
open Go.Abs
set_option linter.unusedVariables false
set_option linter.unusedSimpArgs false
set_option maxRecDepth 20000
set_option maxHeartbeats 4000000

end Go.Proofs.YtgibkdldfnlglaaGreatDoor
namespace Go.Proofs.YtgibkdldfnlglaaGreatDoor
open Go.Abs Go.Lex
set_option linter.unusedSimpArgs false
set_option linter.unusedVariables false
end Go.Proofs.YtgibkdldfnlglaaGreatDoor
namespace Go.Proofs.YtgibkdldfnlglaaGreatDoor
open Go.Abs
set_option linter.unusedVariables false
set_option linter.unusedSimpArgs false
set_option maxRecDepth 20000
set_option maxHeartbeats 4000000

def lexer_Text_L1 (n : Nat) (l_0 : (List S_api_Lexeme)) : ((List (List UInt8)) × Int) → Option (Lp ((List (List UInt8)) × Int) (Lp ((List (List UInt8))) ((List UInt8) × Int))) :=
 fun (out_7, s_8) =>
  cond (decide (s_8 < (l_0.length : Int)))
   (idx l_0 s_8 fun x15 =>
   obind (lexer_isToken n x15) fun r17 =>
   cond (!r17)
    (some (.stop (.stop ([], 1))))
    (obind (lexer_write x15) fun r20 =>
    need (out_7.length + ([r20] : List (List UInt8)).length ≤ 4294967296) (
    some (.go ((out_7 ++ ([r20] : List (List UInt8))), (IntKind.i64.wrap (s_8 + 1)))))))
   (some (.stop (.go out_7)))
def lexer_Text (n : Nat) (l_0 : (List S_api_Lexeme)) : Option ((List UInt8) × Int) :=
 bindJ (S := (List (List UInt8)))
  (iter (lexer_Text_L1 n l_0) n (([] : List (List UInt8)), 0))
 (fun out_1 =>
  obind (joinH out_1 [32]) fun r25 =>
  cond (decide (65536 < (r25.length : Int)))
   (some ([], 2))
   (some (r25, 0)))
theorem lexer_Text_ok (n : Nat) (l_0 : (List S_api_Lexeme)) (l_0v : Value) {r : (List UInt8) × Int} (h : lexer_Text n l_0 = some r) :
  Meets Tryz.prog 22 [l_0v] [ro l_0v 3 (l_0.map S_api_Lexeme.enc), globA] (fun v G => v = .tuple #[.string (bs r.1), .int .i64 r.2] ∧ G = []) := by
 refine fn_of_run Tryz.func22 rfl Tryz.ntmps22 rfl (fun w0 o0 => ?_)
 refine run_seq ?_
 refine run_region' ?_
 refine oy rfl rfl (y_assign rfl) ?_
 refine oy rfl rfl (y_assign rfl) ?_
 refine ops_nil ?_
 refine goes_code ?_
 refine run_seq ?_
 refine run_region' ?_
 refine oy rfl rfl (y_assign rfl) ?_
 refine ops_nil ?_
 refine goes_code ?_
 obtain ⟨o3, h, ho4⟩ := bindJ_some h
 refine run_cut (((List (List UInt8))) × (Value)) (fun σ => [(4, σ.2)]) (fun σ => [row σ.2 1 (σ.1.map eStr), globA]) (fun σ => o3 = .go σ.1) (fun L6 hL5 => ?_) ?_
 ·
  refine run_seq ?_
  refine run_region' ?_
  refine oy rfl rfl (y_move rfl) ?_
  refine oy rfl rfl ((y_len 0 rfl Tryz.runUnderlying23 rfl rfl reads_ro).to (v_len S_api_Lexeme.enc _)) ?_
  refine oy rfl rfl (y_move rfl) ?_
  refine ops_nil ?_
  refine goes_code ?_
  refine run_block ?_
  refine run_turn (nilrow 1) ?_
  refine run_turn (retell 2 (g := row (.slice none 0 0) 1 (([] : List (List UInt8)).map eStr)) rfl rfl) ?_
  refine run_iter (step := lexer_Text_L1 n l_0) (n := n) (s0 := (([] : List (List UInt8)), 0)) h (G := Value) (.slice none 0 0) (fun σ γ => [(4, γ), (10, .int .i64 σ.2), (8, l_0v), (9, .int .i64 (l_0.length : Int))]) (fun σ γ => [row γ 1 (σ.1.map eStr), ro l_0v 3 (l_0.map S_api_Lexeme.enc), globA]) [2, 0, 1] (qv4 rfl rfl rfl rfl) (by decide) rfl ?_
  rintro ⟨out_7, s_8⟩ v9 o10 h L13 hgo11 hstop12
  change Run _ _ _ (VF.of [(4, v9), (10, .int .i64 s_8), (8, l_0v), (9, .int .i64 (l_0.length : Int))]) [row v9 1 (out_7.map eStr), ro l_0v 3 (l_0.map S_api_Lexeme.enc), globA]
  refine run_seq ?_
  refine run_region' ?_
  refine oy rfl rfl (y_lss rfl rfl) ?_
  refine ops_nil ?_
  refine goes_code ?_
  refine run_seq ?_
  refine run_cond (decide (s_8 < (l_0.length : Int))) rfl (fun hc14 => ?_) (fun hc14 => ?_)
  ·replace h := cond_t h hc14
   refine run_skip ?_
   refine goes_code ?_
   refine run_seq ?_
   refine run_block ?_
   refine run_seq ?_
   refine run_region' ?_
   obtain ⟨x15, hzx15, hlx15, hxx15, h⟩ := idx_some h
   refine oy rfl rfl (y_indexAddrI (kd := .i64) (i := s_8) 1 Tryz.runUnderlying23 Tryz.sizeOf44 rfl rfl rfl reads_ro hzx15 (map_lt hlx15)) ?_
   refine oy rfl rfl (y_load_agg (i := s_8.toNat) (c := [.int .i64 x15.Kind, .int .i64 x15.At, .string (bs x15.S)]) 1 Tryz.isAgg44 Tryz.sizeOf44 rfl rfl reads_ro (map_get hxx15)) ?_
   refine ot rfl rfl (t_alloc Tryz.zeroValue44) ?_
   rintro _ _ ⟨b16, rfl, rfl⟩
   refine ot rfl rfl (t_store 3 Tryz.sizeOf44 rfl rfl rfl rfl (by simp [Value.cells, boxP]) (by simp [Value.cells, Value.oneCell', boxP])) ?_
   rintro _ _ ⟨rfl, rfl⟩
   refine ops_turn (retell 3 (g := box b16 [.int .i64 x15.Kind, .int .i64 x15.At, .string (bs x15.S)]) rfl rfl) ?_
   refine ops_nil ?_
   refine goes_code ?_
   refine run_seq ?_
   refine run_seq ?_
   refine run_region' ?_
   refine oy rfl rfl (y_load_boxagg (c := [.int .i64 x15.Kind, .int .i64 x15.At, .string (bs x15.S)]) 3 Tryz.isAgg44 Tryz.sizeOf44 rfl rfl rfl) ?_
   obtain ⟨r17, hr18, h⟩ := obind_some h
   refine ot rfl rfl (t_callx (vs := [.agg #[.int .i64 x15.Kind, .int .i64 x15.At, .string (bs x15.S)]]) (cs := []) [(2, 0)] rfl Tryz.call35 rfl (lexer_isToken_ok n  x15  hr18) (showsX_view 2 rfl views_glob showsX_nil) rfl (.inl rfl)) ?_
   rintro _ _ ⟨_, ⟨rfl, rfl⟩, rfl⟩
   refine oy rfl rfl (y_not rfl) ?_
   refine ops_nil ?_
   refine goes_code ?_
   refine run_cond (!r17) rfl (fun hc19 => ?_) (fun hc19 => ?_)
   ·replace h := cond_t h hc19
    refine run_seq ?_
    refine run_weak [] [2] [globA] vnil (by decide) rfl ?_
    refine run_region' ?_
    refine oy rfl rfl (y_assign rfl) ?_
    refine oy rfl rfl (y_assign rfl) ?_
    refine ops_nil ?_
    refine goes_code ?_
    refine run_ret ?_
    obtain rfl := some_eq h
    obtain rfl := hstop12 _ rfl
    skip
    obtain rfl := after_stop ho4
    refine fin_slots [2, 3] [.string (bs []), .int .i64 1] [] [] Tryz.results22 rfl (by decide) rfl ?_
    exact ⟨rfl, rfl⟩
   ·replace h := cond_f h hc19
    refine run_skip ?_
    refine goes_code ?_
    refine run_weak [(4, v9), (10, .int .i64 s_8), (8, l_0v), (9, .int .i64 (l_0.length : Int)), (6, boxP b16 0)] [0, 1, 2, 3] [row v9 1 (out_7.map eStr), ro l_0v 3 (l_0.map S_api_Lexeme.enc), globA, box b16 [.int .i64 x15.Kind, .int .i64 x15.At, .string (bs x15.S)]] (qv5 rfl rfl rfl rfl rfl) (by decide) rfl ?_
    refine run_region' ?_
    refine oy rfl rfl (y_move rfl) ?_
    refine oy rfl rfl (y_load_boxagg (c := [.int .i64 x15.Kind, .int .i64 x15.At, .string (bs x15.S)]) 3 Tryz.isAgg44 Tryz.sizeOf44 rfl rfl rfl) ?_
    obtain ⟨r20, hr21, h⟩ := obind_some h
    refine ot rfl rfl (t_callx (vs := [.agg #[.int .i64 x15.Kind, .int .i64 x15.At, .string (bs x15.S)]]) (cs := []) [] rfl Tryz.call38 rfl (lexer_write_ok  x15  hr21) showsX_nil rfl (.inl rfl)) ?_
    rintro _ _ ⟨_, ⟨rfl, rfl⟩, rfl⟩
    refine ot rfl rfl (t_lit [.string (bs r20)] Tryz.runUnderlying39 Tryz.sizeOf9 Tryz.zeroValue9 rfl (by decide) (by decide) rfl (by simp [Value.cells, boxP])) ?_
    rintro v22 _ ⟨rfl, _⟩
    refine ops_turn (retell 4 (g := row v22 1 (([r20] : List (List UInt8)).map eStr)) rfl rfl) ?_
    obtain ⟨hr24, h⟩ := need_some h
    refine ot rfl rfl (t_append (es := 1) 0 rfl Tryz.runUnderlying39 rfl Tryz.runUnderlying39 (.inr ⟨_, rfl⟩) Tryz.typeInfo9 rfl (by decide) Tryz.zeroValue9 rfl rfl rfl rfl (src_reads 4 rfl reads_row (map_ok eStr_ok _)) (map_room hr24 (by decide)) (map_fit hr24)) ?_
    rintro v23 _ rfl
    refine ops_turn (retell 0 (g := row v23 1 ((out_7 ++ ([r20] : List (List UInt8))).map eStr)) rfl (congrArg (row _ _) List.map_append.symm)) ?_
    refine oy rfl rfl (y_assign rfl) ?_
    refine ops_nil ?_
    refine goes_blk ?_
    refine goes_code ?_
    refine run_region' ?_
    refine oy rfl rfl (y_add rfl rfl) ?_
    refine oy rfl rfl (y_move rfl) ?_
    refine ops_nil ?_
    obtain rfl := some_eq h
    exact goes_iter hgo11 ((out_7 ++ ([r20] : List (List UInt8))), (IntKind.i64.wrap (s_8 + 1))) v23 [0, 1, 2] rfl (qv4 rfl rfl rfl rfl) (by decide) rfl
  ·replace h := cond_f h hc14
   refine run_exit _ rfl ?_
   obtain rfl := some_eq h
   obtain rfl := hstop12 _ rfl
   exact goes_cut hL5 (out_7, v9) [0, 2] (qv1 rfl) (by decide) rfl rfl
 rintro ⟨out_1, v2⟩ hj
 obtain rfl : o3 = _ := hj
 replace h := after_go ho4
 clear ho4
 change Run _ _ _ (VF.of [(4, v2)]) [row v2 1 (out_1.map eStr), globA]
 refine run_seq ?_
 refine run_region' ?_
 refine oy rfl rfl (y_move rfl) ?_
 obtain ⟨r25, hr26, h⟩ := obind_some h
 refine ot rfl rfl (t_callx (vs := [v2, .string (bs [32])]) (cs := []) [(0, 1)] rfl Tryz.call39 rfl (joinH_ok  out_1 [32] v2 hr26) (showsX_look 0 rfl views_row showsX_nil) rfl (.inr (by rintro _ _ ⟨rfl, rfl⟩ g hg; first | (cases hg; done) | (simp only [List.mem_cons, List.not_mem_nil, or_false] at hg; first | (subst hg; first | exact strict_row | exact strict_box) | (rcases hg with rfl | rfl <;> first | exact strict_row | exact strict_box) | (rcases hg with rfl | rfl | rfl <;> first | exact strict_row | exact strict_box))))) ?_
 rintro _ _ ⟨_, ⟨rfl, rfl⟩, rfl⟩
 refine oy rfl rfl (y_assign rfl) ?_
 refine ops_nil ?_
 refine goes_code ?_
 refine run_seq ?_
 refine run_seq ?_
 refine run_region' ?_
 refine oy rfl rfl (y_move rfl) ?_
 refine oy rfl rfl (y_len_str rfl Tryz.runUnderlying9 rfl) ?_
 refine oy rfl rfl (y_gtr rfl rfl) ?_
 refine ops_nil ?_
 refine goes_code ?_
 refine run_cond (decide (65536 < (r25.length : Int))) rfl (fun hc27 => ?_) (fun hc27 => ?_)
 ·replace h := cond_t h hc27
  refine run_seq ?_
  refine run_region' ?_
  refine oy rfl rfl (y_assign rfl) ?_
  refine oy rfl rfl (y_assign rfl) ?_
  refine ops_nil ?_
  refine goes_code ?_
  refine run_ret ?_
  obtain rfl := some_eq h
  refine fin_slots [2, 3] [.string (bs []), .int .i64 2] [] [] Tryz.results22 rfl (by decide) rfl ?_
  exact ⟨rfl, rfl⟩
 ·replace h := cond_f h hc27
  refine run_skip ?_
  refine goes_code ?_
  refine run_seq ?_
  refine run_region' ?_
  refine oy rfl rfl (y_move rfl) ?_
  refine oy rfl rfl (y_assign rfl) ?_
  refine oy rfl rfl (y_assign rfl) ?_
  refine ops_nil ?_
  refine goes_code ?_
  refine run_ret ?_
  obtain rfl := some_eq h
  refine fin_slots [2, 3] [.string (bs r25), .int .i64 0] [] [] Tryz.results22 rfl (by decide) rfl ?_
  exact ⟨rfl, rfl⟩

end Go.Proofs.YtgibkdldfnlglaaGreatDoor
namespace Go.Proofs.YtgibkdldfnlglaaGreatDoor
open Go.Abs Go.Lex
set_option linter.unusedSimpArgs false
set_option linter.unusedVariables false
theorem bindJ_goj {S R : Type} (s : S) (k : S → Option R) : bindJ (some (.go s)) k = k s := rfl
def wr (t : S_api_Lexeme) : List UInt8 := if t.Kind = 4 then [34] ++ esc t.S ++ [34] else t.S
theorem wr_len (t : S_api_Lexeme) : (wr t).length ≤ 2 * t.S.length + 2 := by
  have h1 := esc_len t.S; have h2 := k2_le t.S
  unfold wr
  split
  · simp; omega
  · omega
theorem write_eq (t : S_api_Lexeme) (h : t.S.length ≤ 1000000) : lexer_write t = some (wr t) := by
  have h1 := esc_len t.S; have h2 := k2_le t.S
  unfold lexer_write wr
  by_cases hk : t.Kind = 4
  · rw [decide_eq_false (by simpa using hk), cond_false, if_pos hk]
    unfold newReplH replaceH
    rw [need_pos (by rfl), need_pos ⟨⟨rfl, rfl⟩, rfl, by omega⟩]
    simp only [obind, Option.bind_some]
    rw [need_pos (by simp; omega), need_pos (by simp; omega)]
  · rw [decide_eq_true (by simpa using hk), cond_true, if_neg hk]
/-- is it a token? -/
def isT (t : S_api_Lexeme) : Bool := decide ((tokR (wr t)).2.E = 0) && decide ((tokR (wr t)).1 = [⟨t.Kind, 0, t.S⟩])
theorem lex_eq (x : S_api_Lexeme) (k : Int) (s : List UInt8) : (x = ⟨k, 0, s⟩) ↔ x.Kind = k ∧ x.At = 0 ∧ x.S = s := by
  obtain ⟨a, b, c⟩ := x
  simp
theorem isToken_eq (t : S_api_Lexeme) (h : t.S.length ≤ 30000) (n : Nat) (hn : 100000 < n) : lexer_isToken n t = some (isT t) := by
  have hw := wr_len t
  unfold lexer_isToken isT
  rw [write_eq t (by omega)]
  simp only [obind, Option.bind_some]
  rw [tokens_eq (wr t) (by omega) n (by omega)]
  simp only [Option.bind_some]
  generalize tokR (wr t) = r
  obtain ⟨l, p⟩ := r
  by_cases h0 : p.E = 0
  · match l with
    | [] => simp [h0, bindJ_goj]
    | [x] =>
      have h3 : (x = (⟨t.Kind, 0, t.S⟩ : S_api_Lexeme)) ↔ _ := lex_eq x t.Kind t.S
      have h4 : (decide (x.Kind = t.Kind) && (decide (x.At = 0) && decide (x.S = t.S))) = decide (x = (⟨t.Kind, 0, t.S⟩ : S_api_Lexeme)) := by
        rw [Bool.eq_iff_iff]; simp only [Bool.and_eq_true, decide_eq_true_eq]; rw [h3]
      simp [h0, bindJ_goj, idx, h4]
    | x :: y :: l =>
      have hlen : decide (((x :: y :: l).length : Int) = 1) = false := decide_eq_false (by simp; omega)
      rw [hlen, Bool.and_false, cond_false]
      simp [bindJ_goj]
  · simp [h0, bindJ_goj]
end Go.Proofs.YtgibkdldfnlglaaGreatDoor
namespace Go.Proofs.YtgibkdldfnlglaaGreatDoor
open Go.Abs
set_option linter.unusedVariables false
set_option linter.unusedSimpArgs false
set_option maxRecDepth 20000
set_option maxHeartbeats 4000000

end Go.Proofs.YtgibkdldfnlglaaGreatDoor
namespace Go.Proofs.YtgibkdldfnlglaaGreatDoor
open Go.Abs Go.Lex
set_option linter.unusedSimpArgs false
set_option linter.unusedVariables false
theorem join_cons2 (y z : List UInt8) (r : List (List UInt8)) : joinP (y :: z :: r) [32] = y ++ [32] ++ joinP (z :: r) [32] := by simp [joinP, List.intercalate]
theorem join_len (k : Nat) : ∀ L : List (List UInt8), (∀ x ∈ L, x.length ≤ k) → (joinP L [32]).length ≤ (k + 1) * L.length
  | [], _ => by simp [joinP, List.intercalate]
  | [y], h => by
    have := h y (by simp)
    simp [joinP, List.intercalate]; omega
  | y :: z :: r, h => by
    have ih := join_len k (z :: r) (fun x hx => h x (List.mem_cons_of_mem _ hx))
    have hy := h y (by simp)
    rw [join_cons2]
    simp only [List.length_append, List.length_cons, List.length_nil] at ih ⊢
    rw [Nat.mul_add (k + 1) (r.length + 1) 1]
    omega
theorem wr_all (l : List S_api_Lexeme) (k : Nat) (h : ∀ t ∈ l, t.S.length ≤ k) : ∀ x ∈ l.map wr, x.length ≤ 2 * k + 2 := by
  intro x hx
  obtain ⟨t, ht, rfl⟩ := List.mem_map.1 hx
  have := wr_len t; have := h t ht
  omega
theorem take_snoc {α : Type} {l : List α} {i : Nat} (h : i < l.length) : l.take (i + 1) = l.take i ++ [l[i]] := by
  rw [List.take_add_one, List.getElem?_eq_getElem h]; rfl
/-- what Text returns -/
def textR (l : List S_api_Lexeme) : List UInt8 × Int := if (∀ t ∈ l, isT t = true) then (if 65536 < (joinP (l.map wr) [32]).length then ([], 2) else (joinP (l.map wr) [32], 0)) else ([], 1)
theorem text_val (l : List S_api_Lexeme) (hl : l.length ≤ 3000) (hs : ∀ t ∈ l, t.S.length ≤ 3000) (n : Nat) (hn : 1000000 < n) : lexer_Text n l = some (textR l) := by
  unfold lexer_Text
  obtain ⟨r, e, h⟩ := iter_inv (step := lexer_Text_L1 n l) (fun x => ∃ i : Nat, x = ((l.take i).map wr, (i : Int)) ∧ i ≤ l.length ∧ ∀ t ∈ l.take i, isT t = true) (fun x => l.length - x.2.toNat)
    (fun r => (r = .go (l.map wr) ∧ ∀ t ∈ l, isT t = true) ∨ (r = .stop ([], 1) ∧ ¬ ∀ t ∈ l, isT t = true)) (by
    rintro _ ⟨i, rfl, hi, ha⟩
    unfold lexer_Text_L1
    by_cases hlt : i < l.length
    · have hm : l[i] ∈ l := List.getElem_mem hlt
      have hsi := hs _ hm
      simp only
      rw [decide_eq_true (show (i : Int) < (l.length : Int) by omega), cond_true, idx_get' hlt, isToken_eq _ (by omega) n (by omega), write_eq _ (by omega)]
      simp only [obind, Option.bind_some]
      cases hT : isT l[i] with
      | false => exact .inr ⟨_, rfl, .inr ⟨rfl, fun hq => by rw [hq _ hm] at hT; cases hT⟩⟩
      | true =>
        refine .inl ⟨_, ?_, ⟨i + 1, rfl, hlt, fun t ht => ?_⟩, by simp; omega⟩
        · simp only [Bool.not_true, cond_false]
          rw [need_pos (by simp; omega), w64 (by omega) (by omega), take_snoc hlt, List.map_append]
          simp only [List.map_singleton, Int.natCast_add, Int.cast_ofNat_Int]
        · rw [take_snoc hlt] at ht
          rcases List.mem_append.1 ht with h1 | h1
          · exact ha t h1
          · rw [List.mem_singleton.1 h1]; exact hT
    · obtain rfl : i = l.length := by omega
      refine .inr ⟨_, ?_, .inl ⟨rfl, by simpa using ha⟩⟩
      simp only
      rw [decide_eq_false (by omega), cond_false]
      simp) n ([], 0) ⟨0, by simp, by omega, by simp⟩ (by simp; omega)
  rw [e]
  unfold textR
  rcases h with ⟨rfl, h⟩ | ⟨rfl, h⟩
  · rw [bindJ_goj, if_pos h]
    have hj := join_len 6002 (l.map wr) (wr_all l 3000 hs)
    rw [List.length_map] at hj
    have hj2 : (6002 + 1) * l.length ≤ 6003 * 3000 := Nat.mul_le_mul_left _ hl
    unfold joinH
    rw [need_pos ⟨by rw [List.length_map]; omega, by omega⟩]
    simp only [obind, Option.bind_some]
    by_cases h2 : 65536 < (joinP (l.map wr) [32]).length
    · rw [decide_eq_true (by omega), if_pos h2]; rfl
    · rw [decide_eq_false (by omega), if_neg h2]; rfl
  · rw [if_neg h]; rfl
end Go.Proofs.YtgibkdldfnlglaaGreatDoor
namespace Go.Proofs.YtgibkdldfnlglaaGreatDoor
open Go.Abs
set_option linter.unusedVariables false
set_option linter.unusedSimpArgs false
set_option maxRecDepth 20000
set_option maxHeartbeats 4000000

def law18_blank (n : Nat) (s_0 : (List UInt8)) : Option (Bool) :=
 obind (lexer_Tokens n s_0) fun r1 =>
 some (decide (r1.2.E = 0) && decide ((r1.1.length : Int) = 0))
theorem law18_blank_ok (n : Nat) (s_0 : (List UInt8))  {r : Bool} (h : law18_blank n s_0 = some r) :
  Meets Tryz.prog 25 [.string (bs s_0)] [globA] (fun v G => v = .bool r ∧ G = []) := by
 refine fn_of_run Tryz.func25 rfl Tryz.ntmps25 rfl (fun w0 o0 => ?_)
 refine run_seq ?_
 refine run_region' ?_
 refine oy rfl rfl (y_assign rfl) ?_
 refine ops_nil ?_
 refine goes_code ?_
 refine run_seq ?_
 refine run_region' ?_
 refine oy rfl rfl (y_move rfl) ?_
 obtain ⟨r1, hr2, h⟩ := obind_some h
 refine ot rfl rfl (t_callx (vs := [.string (bs s_0)]) (cs := []) [(0, 0)] rfl Tryz.call10 rfl (lexer_Tokens_ok n  s_0  hr2) (showsX_view 0 rfl views_glob showsX_nil) rfl (.inl rfl)) ?_
 rintro _ _ ⟨_, ⟨v3, rfl, rfl⟩, rfl⟩
 refine oy rfl rfl (y_move rfl) ?_
 refine oy rfl rfl (y_extract rfl rfl) ?_
 refine oy rfl rfl (y_extract rfl rfl) ?_
 refine ot rfl rfl (t_alloc Tryz.zeroValue26) ?_
 rintro _ _ ⟨b4, rfl, rfl⟩
 refine oy rfl rfl (y_assign rfl) ?_
 refine ot rfl rfl (t_store 2 Tryz.sizeOf26 rfl rfl rfl rfl (by simp [Value.cells, boxP]) (by simp [Value.cells, Value.oneCell', boxP])) ?_
 rintro _ _ ⟨rfl, rfl⟩
 refine ops_turn (retell 2 (g := box b4 [.int .i64 r1.2.At, .int .i64 r1.2.E]) rfl rfl) ?_
 refine ops_nil ?_
 refine goes_code ?_
 refine run_seq ?_
 refine run_weak [(4, boxP b4 0), (3, v3)] [0, 1, 2] [globA, row v3 3 (r1.1.map S_api_Lexeme.enc), box b4 [.int .i64 r1.2.At, .int .i64 r1.2.E]] (qv2 rfl rfl) (by decide) rfl ?_
 refine run_region' ?_
 refine oy rfl rfl (y_fieldAddr_box (sz := 0) Tryz.runUnderlying26 rfl Tryz.sizeOf24 rfl) ?_
 refine oy rfl rfl (y_load_box 2 Tryz.isAgg24 rfl rfl rfl) ?_
 refine oy rfl rfl (y_eql rfl rfl) ?_
 refine oy rfl rfl (y_move rfl) ?_
 refine ops_cut 4 (Bool) (fun σ => [(17, .bool σ)]) (fun σ => [globA]) (fun σ => σ = (decide (r1.2.E = 0) && decide ((r1.1.length : Int) = 0))) (fun L5 hL6 => ?_) ?_
 ·refine ops_split 13 (decide (r1.2.E = 0)) rfl (fun hg7 => ?_) (fun hg7 => ?_)
  ·skip
   refine ops_y (wg 3 true 13 rfl rfl rfl rfl) rfl (y_move rfl) ?_
   refine ops_y (wg 3 true 13 rfl rfl rfl rfl) rfl ((y_len 1 rfl Tryz.runUnderlying23 rfl rfl reads_row).to (v_len S_api_Lexeme.enc _)) ?_
   refine ops_y (wg 3 true 13 rfl rfl rfl rfl) rfl (y_eql rfl rfl) ?_
   refine oy rfl rfl (y_pick (b := true) rfl rfl) ?_
   refine ops_nil ?_
   exact goes_cut hL6 (decide ((r1.1.length : Int) = 0)) [0] (qv1 rfl) (by decide) rfl (by rw [hg7]; simp)
  ·skip
   refine ops_no 3 true 13 rfl rfl rfl rfl rfl ?_
   refine ops_no 3 true 13 rfl rfl rfl rfl rfl ?_
   refine ops_no 3 true 13 rfl rfl rfl rfl rfl ?_
   refine oy rfl rfl (y_pick (b := false) rfl rfl) ?_
   refine ops_nil ?_
   exact goes_cut hL6 false [0] (qv1 rfl) (by decide) rfl (by rw [hg7]; simp)
 rintro _ rfl
 refine oy rfl rfl (y_assign rfl) ?_
 refine ops_nil ?_
 refine goes_code ?_
 refine run_ret ?_
 obtain rfl := some_eq h
 refine fin_slots [2] [.bool (decide (r1.2.E = 0) && decide ((r1.1.length : Int) = 0))] [] [] Tryz.results25 rfl (by decide) rfl ?_
 exact ⟨rfl, rfl⟩

end Go.Proofs.YtgibkdldfnlglaaGreatDoor
namespace Go.Lex
set_option linter.unusedSimpArgs false
set_option linter.unusedVariables false
def escC (b : UInt8) : List UInt8 := if b = 34 then [92, 34] else if b = 92 then [92, 92] else [b]
def escL (s : List UInt8) : List UInt8 := s.flatMap escC
/-- a token as it is written -/
def wrL (k : Int) (w : List UInt8) : List UInt8 := if k = 4 then [34] ++ escL w ++ [34] else w
theorem escL_cons (b : UInt8) (s : List UInt8) : escL (b :: s) = escC b ++ escL s := rfl
/-- a byte that sticks to no token -/
def sepB (b : UInt8) : Bool := !(ltr b) && decide (b ≠ 61) && decide (b ≠ 46)
theorem sep_ltr {b : UInt8} (h : sepB b = true) : ltr b = false := by simp [sepB] at h; exact h.1.1
theorem ltr_rst {b : UInt8} (h : ltr b = false) : rst b = false := by simp [ltr] at h; exact h.1
theorem rst_dg {b : UInt8} (h : rst b = false) : dg b = false := by simp [rst] at h; exact h.1.2
theorem sep_rst {b : UInt8} (h : sepB b = true) : rst b = false := ltr_rst (sep_ltr h)
theorem sep_longs {b : UInt8} (h : sepB b = true) (a : UInt8) : [a, b] ∉ longs := by
  simp [sepB] at h
  simp [longs, h.1.2, h.2]
/-- what may follow: nothing that sticks, or what begins as what followed -/
def okH (r r' : List UInt8) : Prop := ∀ c t, r' = c :: t → sepB c = true ∨ ∃ t', r = c :: t'
theorem tw_part {p : UInt8 → Bool} : ∀ (x : List UInt8) (y : List UInt8), (∀ b ∈ x, p b = true) → (∀ c t, y = c :: t → p c = false) → (x ++ y).takeWhile p = x ∧ (x ++ y).dropWhile p = y
  | [], y, _, hy => by
    cases y with
    | nil => simp
    | cons c t =>
      have h := hy c t rfl
      simp [h]
  | b :: x, y, hx, hy => by
    obtain ⟨h1, h2⟩ := tw_part x y (fun b hb => hx b (List.mem_cons_of_mem _ hb)) hy
    have hb := hx b (List.mem_cons_self ..)
    simp only [List.cons_append, List.takeWhile_cons_of_pos hb, List.dropWhile_cons_of_pos hb, h1, h2]
    exact ⟨trivial, trivial⟩
theorem tw_all {p : UInt8 → Bool} : ∀ (x : List UInt8), ∀ b ∈ x.takeWhile p, p b = true
  | [], b, h => by simp at h
  | a :: x, b, h => by
    cases ha : p a with
    | true =>
      rw [List.takeWhile_cons_of_pos ha] at h
      rcases List.mem_cons.1 h with rfl | h
      · exact ha
      · exact tw_all x b h
    | false => rw [List.takeWhile_cons_of_neg (by simp [ha])] at h; simp at h
theorem dw_head {p : UInt8 → Bool} : ∀ (x : List UInt8) (c : UInt8) (t : List UInt8), x.dropWhile p = c :: t → p c = false
  | [], c, t, h => by simp at h
  | a :: x, c, t, h => by
    cases ha : p a with
    | true => rw [List.dropWhile_cons_of_pos ha] at h; exact dw_head x c t h
    | false => rw [List.dropWhile_cons_of_neg (by simp [ha])] at h; cases h; exact ha
theorem txt_back : ∀ (n : Nat) (s out : List UInt8) (k : Int) (w r : List UInt8), s.length ≤ n → txtP out s = .inr (k, w, r) →
    k = 4 ∧ ∃ v, w = out ++ v ∧ s = escL v ++ 34 :: r ∧ ∀ r', txtP out (escL v ++ 34 :: r') = .inr (4, w, r') := by
  intro n
  induction n with
  | zero =>
    intro s out k w r hn h
    match s, hn with
    | [], _ => rw [txt_nil] at h; cases h
  | succ n ih =>
    intro s out k w r hn h
    match s, hn with
    | [], _ => rw [txt_nil] at h; cases h
    | b :: t, hn =>
      rw [txt_cons] at h
      split at h
      · rename_i h1
        subst h1
        split at h
        · cases h
        · rename_i h2
          cases h
          refine ⟨rfl, [], by simp, rfl, fun r' => ?_⟩
          show txtP out (34 :: r') = _
          rw [txt_cons, if_pos rfl, if_neg h2]
      · rename_i h1
        split at h
        · rename_i h2
          subst h2
          match t, hn, h with
          | [], _, h => cases h
          | c :: t', hn, h =>
            simp only at h
            split at h
            · rename_i h3
              obtain ⟨hk, v, hw, hs, hr⟩ := ih t' _ _ _ _ (by simp at hn; omega) h
              have hc : escC c = [92, c] := by rcases h3 with rfl | rfl <;> rfl
              refine ⟨hk, c :: v, by rw [hw]; simp, by rw [escL_cons, hc, hs]; simp, fun r' => ?_⟩
              rw [escL_cons, hc]
              show txtP out (92 :: c :: (escL v ++ 34 :: r')) = _
              rw [txt_cons, if_neg (by decide), if_pos rfl]
              simp only
              rw [if_pos h3]
              exact hr r'
            · cases h
        · rename_i h2
          split at h
          · cases h
          · rename_i h3
            obtain ⟨hk, v, hw, hs, hr⟩ := ih t _ _ _ _ (by simp at hn; omega) h
            have hb : escC b = [b] := by unfold escC; rw [if_neg h1, if_neg h2]
            refine ⟨hk, b :: v, by rw [hw]; simp, by rw [escL_cons, hb, hs]; simp, fun r' => ?_⟩
            rw [escL_cons, hb]
            show txtP out (b :: (escL v ++ 34 :: r')) = _
            rw [txt_cons, if_neg h1, if_neg h2, if_neg h3]
            exact hr r'
theorem sgn_split {s : List UInt8} {k : Int} {w r : List UInt8} (h : sgnP s = .inr (k, w, r)) : k = 5 ∧ s = w ++ r ∧ w ≠ [] ∧ ∀ r', okH r r' → sgnP (w ++ r') = .inr (5, w, r') := by
  have one : ∀ (b : UInt8) (hb : b ∈ shorts) (q : List UInt8), (∀ c t, q = c :: t → [b, c] ∉ longs) → sgnP (b :: q) = .inr (5, [b], q) := by
    intro b hb q hq
    cases q with
    | nil => rw [sgn_one, if_pos hb]
    | cons c t => rw [sgn_two, if_neg (hq c t rfl), if_pos hb]
  match s, h with
  | [b], h =>
    rw [sgn_one] at h
    split at h
    · rename_i hb
      cases h
      refine ⟨rfl, rfl, by simp, fun r' hr => one b hb r' fun c t hc => ?_⟩
      rcases hr c t hc with h | ⟨t', h⟩
      · exact sep_longs h b
      · cases h
    · cases h
  | b :: c :: t, h =>
    rw [sgn_two] at h
    split at h
    · rename_i hl
      cases h
      refine ⟨rfl, rfl, by simp, fun r' _ => ?_⟩
      show sgnP (b :: c :: r') = _
      rw [sgn_two, if_pos hl]
    · rename_i hl
      split at h
      · rename_i hb
        cases h
        refine ⟨rfl, rfl, by simp, fun r' hr => one b hb r' fun c' t' hc => ?_⟩
        rcases hr c' t' hc with h | ⟨t'', h⟩
        · exact sep_longs h b
        · cases h; exact hl
      · cases h
theorem num_split {s : List UInt8} {k : Int} {w r : List UInt8} (hs : ∃ b t, s = b :: t ∧ dg b = true) (h : numP s = .inr (k, w, r)) : k = 3 ∧ s = w ++ r ∧ w ≠ [] ∧ ∀ r', okH r r' → numP (w ++ r') = .inr (3, w, r') := by
  unfold numP at h
  split at h
  · cases h
  · rename_i hb
    cases h
    refine ⟨rfl, (List.takeWhile_append_dropWhile).symm, ?_, fun r' hr => ?_⟩
    · obtain ⟨b, t, rfl, hd⟩ := hs
      rw [List.takeWhile_cons_of_pos hd]; simp
    · generalize hw : s.takeWhile dg = w at *
      generalize hq : s.dropWhile dg = r at *
      have hal : ∀ b ∈ w, dg b = true := by rw [← hw]; exact tw_all s
      have hd0 : ∀ c t, r = c :: t → ltr c = false := by
        intro c t hc
        subst hc
        simp [badNum] at hb
        exact hb.2
      have hl : ∀ c t, r' = c :: t → ltr c = false := by
        intro c t hc
        rcases hr c t hc with h | ⟨t', h⟩
        · exact sep_ltr h
        · exact hd0 c t' h
      obtain ⟨h1, h2⟩ := tw_part w r' hal (fun c t hc => rst_dg (ltr_rst (hl c t hc)))
      unfold numP
      rw [h1, h2]
      have hbad : badNum w r' = false := by
        have h3 : badNum w [] = false := by
          unfold badNum at hb ⊢
          simp only [Bool.or_eq_true, not_or, Bool.or_eq_false_iff] at hb ⊢
          exact ⟨⟨by simpa using hb.1.1, by simpa using hb.1.2⟩, trivial⟩
        cases r' with
        | nil => exact h3
        | cons c t =>
          have := hl c t rfl
          unfold badNum at h3 ⊢
          simp only [Bool.or_eq_false_iff] at h3 ⊢
          exact ⟨h3.1, this⟩
      rw [if_neg (by rw [hbad]; decide)]
theorem nam_split (kw : List (List UInt8)) {s : List UInt8} {k : Int} {w r : List UInt8} (hs : ∃ b t, s = b :: t ∧ rst b = true) (h : namP kw s = .inr (k, w, r)) : k ≠ 4 ∧ s = w ++ r ∧ w ≠ [] ∧ ∀ r', okH r r' → namP kw (w ++ r') = .inr (k, w, r') := by
  have key : ∀ r', okH (s.dropWhile rst) r' → (s.takeWhile rst ++ r').takeWhile rst = s.takeWhile rst ∧ (s.takeWhile rst ++ r').dropWhile rst = r' := by
    intro r' hr
    refine tw_part _ _ (tw_all s) fun c t hc => ?_
    rcases hr c t hc with h | ⟨t', h⟩
    · exact sep_rst h
    · exact dw_head s c t' h
  have hne : s.takeWhile rst ≠ [] := by
    obtain ⟨b, t, rfl, hd⟩ := hs
    rw [List.takeWhile_cons_of_pos hd]; simp
  unfold namP at h
  split at h
  · rename_i hk
    cases h
    refine ⟨by decide, (List.takeWhile_append_dropWhile).symm, hne, fun r' hr => ?_⟩
    obtain ⟨h1, h2⟩ := key r' hr
    unfold namP
    rw [h1, h2, if_pos hk]
  · rename_i hk
    split at h
    · cases h
    · rename_i hl
      cases h
      refine ⟨by decide, (List.takeWhile_append_dropWhile).symm, hne, fun r' hr => ?_⟩
      obtain ⟨h1, h2⟩ := key r' hr
      unfold namP
      rw [h1, h2, if_neg hk, if_neg hl]
/-- a token is what is written, and it is read back, whatever follows that does not stick to it -/
theorem next_split {kw : List (List UInt8)} {s : List UInt8} {k : Int} {w r : List UInt8} (h : nextP kw s = .inr (k, w, r)) : s = wrL k w ++ r ∧ wrL k w ≠ [] ∧ ∀ r', okH r r' → nextP kw (wrL k w ++ r') = .inr (k, w, r') := by
  match s, h with
  | b :: t, h =>
    have hcons : ∀ (w r' : List UInt8), b :: t = w ++ r → w ≠ [] → ∃ t', w ++ r' = b :: t' := by
      intro w r' h1 h2
      cases w with
      | nil => exact absurd rfl h2
      | cons c w => cases h1; exact ⟨_, rfl⟩
    rw [next_cons] at h
    split at h
    · rename_i hb
      obtain ⟨h1, h2, h3, h4⟩ := nam_split kw ⟨b, t, rfl, by unfold rst; rw [hb]; rfl⟩ h
      have hw : wrL k w = w := by unfold wrL; rw [if_neg h1]
      rw [hw]
      refine ⟨h2, h3, fun r' hr => ?_⟩
      have h5 := h4 r' hr
      obtain ⟨t', ht⟩ := hcons w r' h2 h3
      rw [ht] at h5 ⊢
      rw [next_cons, if_pos hb, h5]
    · rename_i hb
      split at h
      · rename_i hd
        obtain ⟨rfl, h2, h3, h4⟩ := num_split ⟨b, t, rfl, hd⟩ h
        have hw : wrL 3 w = w := by unfold wrL; rw [if_neg (by decide)]
        rw [hw]
        refine ⟨h2, h3, fun r' hr => ?_⟩
        have h5 := h4 r' hr
        obtain ⟨t', ht⟩ := hcons w r' h2 h3
        rw [ht] at h5 ⊢
        rw [next_cons, if_neg hb, if_pos hd, h5]
      · rename_i hd
        split at h
        · rename_i hq
          subst hq
          obtain ⟨rfl, v, hv, hs, hr⟩ := txt_back _ _ _ _ _ _ (Nat.le_refl _) h
          rw [List.nil_append] at hv
          subst hv
          have hw : wrL 4 w = [34] ++ escL w ++ [34] := by unfold wrL; rw [if_pos rfl]
          rw [hw]
          refine ⟨by rw [hs]; simp, by simp, fun r' _ => ?_⟩
          rw [show [34] ++ escL w ++ [34] ++ r' = 34 :: (escL w ++ 34 :: r') by simp, next_cons, if_neg hb, if_neg hd, if_pos rfl, hr r']
        · rename_i hq
          obtain ⟨rfl, h2, h3, h4⟩ := sgn_split h
          have hw : wrL 5 w = w := by unfold wrL; rw [if_neg (by decide)]
          rw [hw]
          refine ⟨h2, h3, fun r' hr => ?_⟩
          have h5 := h4 r' hr
          obtain ⟨t', ht⟩ := hcons w r' h2 h3
          rw [ht] at h5 ⊢
          rw [next_cons, if_neg hb, if_neg hd, if_neg hq, h5]
/-- what is skipped in front of something that is not skipped is skipped in front of all such -/
theorem skip_split : ∀ (c : Bool) (s : List UInt8) (b : UInt8) (r : List UInt8), skipP c s = b :: r → ∃ g, s = g ++ b :: r ∧ skipP c g = [] ∧ ∀ (b' : UInt8) (r' : List UInt8), b' ≠ 35 → spc b' = false → skipP c (g ++ b' :: r') = b' :: r'
  | true, [], b, r, h => by simp [skipP] at h
  | false, [], b, r, h => by simp [skipP] at h
  | true, a :: s, b, r, h => by
    rw [skip_t] at h
    split at h
    · rename_i ha
      obtain ⟨g, h1, h2, h3⟩ := skip_split false s b r h
      refine ⟨a :: g, by rw [h1]; rfl, by rw [skip_t, if_pos ha, h2], fun b' r' hb hs => ?_⟩
      rw [List.cons_append, skip_t, if_pos ha]; exact h3 b' r' hb hs
    · rename_i ha
      obtain ⟨g, h1, h2, h3⟩ := skip_split true s b r h
      refine ⟨a :: g, by rw [h1]; rfl, by rw [skip_t, if_neg ha, h2], fun b' r' hb hs => ?_⟩
      rw [List.cons_append, skip_t, if_neg ha]; exact h3 b' r' hb hs
  | false, a :: s, b, r, h => by
    rw [skip_f] at h
    split at h
    · rename_i ha
      obtain ⟨g, h1, h2, h3⟩ := skip_split true s b r h
      refine ⟨a :: g, by rw [h1]; rfl, by rw [skip_f, if_pos ha, h2], fun b' r' hb hs => ?_⟩
      rw [List.cons_append, skip_f, if_pos ha]; exact h3 b' r' hb hs
    · rename_i ha
      split at h
      · rename_i hp
        obtain ⟨g, h1, h2, h3⟩ := skip_split false s b r h
        refine ⟨a :: g, by rw [h1]; rfl, by rw [skip_f, if_neg ha, if_pos hp, h2], fun b' r' hb hs => ?_⟩
        rw [List.cons_append, skip_f, if_neg ha, if_pos hp]; exact h3 b' r' hb hs
      · cases h
        refine ⟨[], rfl, rfl, fun b' r' hb hs => ?_⟩
        rw [List.nil_append, skip_f, if_neg hb, hs]; rfl
/-- a token, as it stands before what does not stick to it -/
structure Tok (kw : List (List UInt8)) (k : Int) (w : List UInt8) : Prop where
  head : ∃ b t, wrL k w = b :: t ∧ b ≠ 35 ∧ spc b = false
  read : ∀ r', (∀ c t, r' = c :: t → sepB c = true) → nextP kw (wrL k w ++ r') = .inr (k, w, r')
theorem tok_of {kw : List (List UInt8)} {s : List UInt8} {b : UInt8} {q : List UInt8} {k : Int} {w r : List UInt8} (hs : skipP false s = b :: q) (h : nextP kw (b :: q) = .inr (k, w, r)) : Tok kw k w := by
  obtain ⟨h1, h2, h3⟩ := next_split h
  obtain ⟨h4, h5⟩ := skip_head _ _ _ _ hs
  refine ⟨?_, fun r' hr => h3 r' fun c t hc => .inl (hr c t hc)⟩
  cases hw : wrL k w with
  | nil => exact absurd hw h2
  | cons c t => rw [hw] at h1; cases h1; exact ⟨_, _, rfl, h4, h5⟩
/-- the tokens of a source, as they stand in it -/
inductive Lay (kw : List (List UInt8)) : List UInt8 → List (Int × Nat × List UInt8) → Prop
  | nil (s : List UInt8) : skipP false s = [] → Lay kw s []
  | cons (g rest : List UInt8) (k : Int) (w : List UInt8) (l : List (Int × Nat × List UInt8)) : skipP false g = [] →
      (∀ (b : UInt8) (r : List UInt8), b ≠ 35 → spc b = false → skipP false (g ++ b :: r) = b :: r) → Tok kw k w →
      (∀ r', okH rest r' → nextP kw (wrL k w ++ r') = .inr (k, w, r')) → Lay kw rest l → Lay kw (g ++ (wrL k w ++ rest)) ((k, (wrL k w ++ rest).length, w) :: l)
theorem lay_of (kw : List (List UInt8)) : ∀ (f : Nat) (s : List UInt8), s.length < f → (toksP kw f s).2 = none → Lay kw s (toksP kw f s).1
  | 0, s, h, _ => by omega
  | f + 1, s, hf, h => by
    cases hs : skipP false s with
    | nil => rw [toks_nil hs]; exact .nil s hs
    | cons b r =>
      cases hn : nextP kw (b :: r) with
      | inl e => rw [toks_inl hs hn] at h; cases h
      | inr q =>
        obtain ⟨k, w, rest⟩ := q
        rw [toks_inr hs hn] at h ⊢
        simp only at h ⊢
        obtain ⟨g, h1, h2, h3⟩ := skip_split _ _ _ _ hs
        obtain ⟨h4, h5, h6⟩ := next_split hn
        have hlt := next_len hn
        have hl := skip_len false s
        rw [hs] at hl
        have ih := lay_of kw f rest (by simp only [List.length_cons] at hl hlt; omega) h
        have := Lay.cons g rest k w _ h2 h3 (tok_of hs hn) h6 ih
        rw [← h4, ← h1, List.length_cons] at this
        exact this
/-- one token at the front -/
theorem toks_one {kw : List (List UInt8)} {g rest : List UInt8} {k : Int} {w : List UInt8} (hg : ∀ (b : UInt8) (r : List UInt8), b ≠ 35 → spc b = false → skipP false (g ++ b :: r) = b :: r) (ht : Tok kw k w)
    (hn : nextP kw (wrL k w ++ rest) = .inr (k, w, rest)) (f : Nat) : toksP kw (f + 1) (g ++ (wrL k w ++ rest)) = ((k, (wrL k w ++ rest).length, w) :: (toksP kw f rest).1, (toksP kw f rest).2) := by
  obtain ⟨b, t, h1, h2, h3⟩ := ht.head
  have e : wrL k w ++ rest = b :: (t ++ rest) := by rw [h1]; rfl
  rw [e] at hn ⊢
  rw [toks_inr (hg b (t ++ rest) h2 h3) hn]
  rfl
theorem lay_sum {kw : List (List UInt8)} {s : List UInt8} {l : List (Int × Nat × List UInt8)} (h : Lay kw s l) : (l.map fun x => (wrL x.1 x.2.2).length).sum ≤ s.length ∧ l.length ≤ s.length ∧ ∀ x ∈ l, Tok kw x.1 x.2.2 := by
  induction h with
  | nil s hs => simp
  | cons g rest k w l h1 h2 h3 h4 h5 ih =>
    obtain ⟨i1, i2, i3⟩ := ih
    have hne : 0 < (wrL k w).length := by
      obtain ⟨b, t, hb, _, _⟩ := h3.head
      rw [hb]; simp
    simp only [List.map_cons, List.sum_cons, List.length_append, List.length_cons]
    refine ⟨by omega, by omega, fun x hx => ?_⟩
    rcases List.mem_cons.1 hx with rfl | hx
    · exact h3
    · exact i3 x hx
/-! tokens with gaps between -/
def GapOk (g : List UInt8) : Prop := ∀ (b : UInt8) (r : List UInt8), b ≠ 35 → spc b = false → skipP false (g ++ b :: r) = b :: r
def GapSep (g : List UInt8) : Prop := ∃ c t, g = c :: t ∧ sepB c = true
def catL : List (List UInt8 × Int × List UInt8) → List UInt8
  | [] => []
  | (g, k, w) :: r => g ++ (wrL k w ++ catL r)
theorem catL_app : ∀ a b, catL (a ++ b) = catL a ++ catL b
  | [], b => rfl
  | (g, k, w) :: r, b => by simp only [List.cons_append, catL, catL_app r b, List.append_assoc]
theorem toks_cat (kw : List (List UInt8)) : ∀ l : List (List UInt8 × Int × List UInt8), (∀ x ∈ l, GapOk x.1 ∧ Tok kw x.2.1 x.2.2) → (∀ x ∈ l.tail, GapSep x.1) → ∀ f, (catL l).length < f →
    ∃ L, toksP kw f (catL l) = (L, none) ∧ L.map (fun x => (x.1, x.2.2)) = l.map (·.2)
  | [], _, _, f, _ => ⟨[], toks_nil rfl f, rfl⟩
  | (g, k, w) :: r, h1, h2, f, hf => by
    obtain ⟨hg, ht⟩ := h1 _ (List.mem_cons_self ..)
    match f, hf with
    | f + 1, hf =>
      have hne : 0 < (wrL k w).length := by
        obtain ⟨b, t, hb, _, _⟩ := ht.head
        show 0 < (wrL (g, k, w).2.1 (g, k, w).2.2).length
        rw [hb]; simp
      have hsep : ∀ c t, catL r = c :: t → sepB c = true := by
        intro c t hc
        match r, h2, hc with
        | (g', k', w') :: r', h2, hc =>
          obtain ⟨c', t', e, hs⟩ := h2 _ (List.mem_cons_self ..)
          simp only at e
          subst e
          simp only [catL, List.cons_append, List.cons.injEq] at hc
          rw [← hc.1]; exact hs
      obtain ⟨L, e1, e2⟩ := toks_cat kw r (fun x hx => h1 x (List.mem_cons_of_mem _ hx)) (fun x hx => h2 x (List.mem_of_mem_tail hx)) f (by
        simp only [catL, List.length_append] at hf; omega)
      refine ⟨(k, (wrL k w ++ catL r).length, w) :: L, ?_, ?_⟩
      · have h3 := toks_one hg ht (ht.read _ hsep) f
        rw [e1] at h3
        exact h3
      · simp [e2]
theorem gapOk_nil : GapOk [] := fun b r h1 h2 => by rw [List.nil_append, skip_f, if_neg h1, h2]; rfl
theorem gapOk_space : GapOk [32] := fun b r h1 h2 => by
  show skipP false (32 :: b :: r) = _
  rw [skip_f, if_neg (by decide), if_pos (by decide), skip_f, if_neg h1, h2]; rfl
theorem gapSep_space : GapSep [32] := ⟨32, [], rfl, by decide⟩
theorem gapOk_lf {g : List UInt8} (h : skipP false g = []) : GapOk (g ++ [10]) := fun b r h1 h2 => by
  rw [List.append_assoc]
  show skipP false (g ++ 10 :: b :: r) = _
  rw [skip_app, if_pos h, skip_f, if_neg h1, h2]; rfl
theorem spc_sep {c : UInt8} (h : spc c = true) : sepB c = true := by
  simp only [spc, Bool.or_eq_true, decide_eq_true_eq] at h
  rcases h with ((rfl | rfl) | rfl) | rfl <;> decide
theorem skip_sep {c : UInt8} {t : List UInt8} (h : skipP false (c :: t) = []) : sepB c = true := by
  rw [skip_f] at h
  split at h
  · rename_i h1; subst h1; decide
  · split at h
    · rename_i h2; exact spc_sep h2
    · cases h
theorem gapSep_lf {g : List UInt8} (h : skipP false g = []) : GapSep (g ++ [10]) := by
  cases g with
  | nil => exact ⟨10, [], rfl, by decide⟩
  | cons c t => exact ⟨c, t ++ [10], rfl, skip_sep h⟩
end Go.Lex
namespace Go.Proofs.YtgibkdldfnlglaaGreatDoor
open Go.Abs Go.Lex
set_option linter.unusedSimpArgs false
set_option linter.unusedVariables false
theorem wr_eq (t : S_api_Lexeme) : wr t = wrL t.Kind t.S := rfl
theorem tokR_ok {s : List UInt8} {L : List (Int × Nat × List UInt8)} (h : toksP kwP (s.length + 1) s = (L, none)) : tokR s = (L.map (mkT s.length), ⟨0, 0⟩) := by
  unfold tokR; rw [h]
theorem tokR_cases (s : List UInt8) : ((toksP kwP (s.length + 1) s).2 = none ∧ tokR s = ((toksP kwP (s.length + 1) s).1.map (mkT s.length), ⟨0, 0⟩)) ∨ ∃ a e, tokR s = ([], ⟨a, e⟩) ∧ e ≠ 0 := by
  obtain ⟨_, _, h3⟩ := toks_ok kwP (s.length + 1) s
  cases h : (toksP kwP (s.length + 1) s).2 with
  | none => left; refine ⟨rfl, ?_⟩; unfold tokR; rw [h]
  | some p => right; obtain ⟨k, e⟩ := p; exact ⟨_, e, by unfold tokR; rw [h], (h3 k e h).1⟩
theorem isT_of {t : S_api_Lexeme} (h : Tok kwP t.Kind t.S) : isT t = true := by
  have hn := h.read [] (fun c t hc => by cases hc)
  have key := toks_one (rest := []) gapOk_nil h hn (wr t).length
  rw [List.append_nil, List.nil_append, toks_nil (s := []) rfl] at key
  unfold isT
  rw [tokR_ok (s := wr t) key]
  have : mkT (wr t).length (t.Kind, (wr t).length, t.S) = ⟨t.Kind, 0, t.S⟩ := by simp [mkT]
  simp only [List.map_cons, List.map_nil, decide_true, Bool.true_and, decide_eq_true_eq, List.cons.injEq, and_true]
  exact this
theorem join_sum : ∀ L : List (List UInt8), (joinP L [32]).length ≤ (L.map List.length).sum + L.length
  | [] => by simp [joinP, List.intercalate]
  | [y] => by simp [joinP, List.intercalate]
  | y :: z :: r => by
    have ih := join_sum (z :: r)
    rw [join_cons2]
    simp only [List.length_append, List.length_cons, List.length_nil, List.map_cons, List.sum_cons] at ih ⊢
    omega
theorem textR_ok {l : List S_api_Lexeme} (h : ∀ t ∈ l, Tok kwP t.Kind t.S) (hs : (joinP (l.map wr) [32]).length ≤ 65536) : textR l = (joinP (l.map wr) [32], 0) := by
  unfold textR
  rw [if_pos (fun t ht => isT_of (h t ht)), if_neg (by omega)]
theorem textR_one {t : S_api_Lexeme} (h : Tok kwP t.Kind t.S) (hs : (wr t).length ≤ 65536) : textR [t] = (wr t, 0) := by
  have e : joinP ([t].map wr) [32] = wr t := by simp [joinP, List.intercalate]
  rw [textR_ok (fun x hx => by rw [List.mem_singleton.1 hx]; exact h) (by rw [e]; exact hs), e]
theorem join_cat : ∀ (l : List S_api_Lexeme) (t : S_api_Lexeme), joinP ((t :: l).map wr) [32] = catL (([], t.Kind, t.S) :: l.map fun x => ([32], x.Kind, x.S))
  | [], t => by simp [joinP, List.intercalate, catL, wr_eq]
  | x :: l, t => by
    have ih := join_cat l x
    rw [List.map_cons, List.map_cons, join_cons2, ← List.map_cons, ih]
    simp only [List.map_cons, catL, wr_eq, List.nil_append, List.append_assoc]
def keyT (t : S_api_Lexeme) : Int × List UInt8 := (t.Kind, t.S)
theorem same_eq (a b : List S_api_Lexeme) (hk : a.map keyT = b.map keyT) (ha : a.length ≤ 1000000) (n : Nat) (hn : a.length < n) : ref18_Same n a b = some true := by
  have hl : a.length = b.length := by simpa using congrArg List.length hk
  unfold ref18_Same
  rw [decide_eq_false (by simp [hl]), cond_false]
  obtain ⟨r, e, rfl⟩ := iter_inv (step := ref18_Same_L1 a b) (fun x => ∃ i : Nat, x = (i : Int) ∧ i ≤ a.length) (fun x => a.length - x.toNat) (fun r => r = .go ()) (by
    rintro x ⟨i, rfl, hi⟩
    unfold ref18_Same_L1
    by_cases hlt : i < a.length
    · have hlb : i < b.length := by omega
      have hx : keyT a[i] = keyT b[i] := by
        have h1 : (a.map keyT)[i]'(by simpa using hlt) = keyT a[i] := List.getElem_map ..
        have h2 : (b.map keyT)[i]'(by simpa using hlb) = keyT b[i] := List.getElem_map ..
        rw [← h1, ← h2]
        simp only [hk]
      simp only [keyT, Prod.mk.injEq] at hx
      rw [decide_eq_true (by omega), cond_true, idx_get'' hlt, idx_get'' hlb]
      rw [hx.1, hx.2]
      simp only [ne_eq, not_true_eq_false, decide_false, decide_true, Bool.not_true, Bool.or_self, cond_false]
      rw [w64 (by omega) (by omega)]
      exact .inl ⟨((i + 1 : Nat) : Int), rfl, ⟨i + 1, rfl, by omega⟩, by simp; omega⟩
    · rw [decide_eq_false (by omega), cond_false]
      exact .inr ⟨_, rfl, rfl⟩) n 0 ⟨0, rfl, by omega⟩ (by simp; omega)
  rw [e]
  rfl
theorem blank_eq (g : List UInt8) (hg : g.length ≤ 65536) (n : Nat) (hn : g.length + 100 < n) : law18_blank n g = some (decide (skipP false g = [])) := by
  unfold law18_blank
  rw [tokens_eq g hg n hn]
  simp only [obind, Option.bind_some, Option.some.injEq]
  obtain ⟨_, _, h3⟩ := toks_ok kwP (g.length + 1) g
  cases hs : skipP false g with
  | nil => rw [tokR_ok (toks_nil hs _)]; simp
  | cons b r =>
    have hf : decide (b :: r = []) = false := by simp
    rw [hf]
    cases hq : nextP kwP (b :: r) with
    | inl e =>
      have hk := toks_inl hs hq g.length
      have h0 := (h3 _ _ (by rw [hk])).1
      unfold tokR
      rw [hk]
      simp [h0]
    | inr q =>
      obtain ⟨k, w, rest⟩ := q
      have hk := toks_inr hs hq g.length
      cases hp : (toksP kwP (g.length + 1) g).2 with
      | none =>
        rw [tokR_ok (L := (toksP kwP (g.length + 1) g).1) (by rw [← hp])]
        rw [hk]; simp; omega
      | some p =>
        obtain ⟨a, e⟩ := p
        have h0 := (h3 _ _ hp).1
        unfold tokR
        rw [hp]
        simp [h0]
theorem mem_map_tok {s : List UInt8} {L : List (Int × Nat × List UInt8)} {N : Nat} (h : ∀ x ∈ L, Tok kwP x.1 x.2.2) : ∀ t ∈ L.map (mkT N), Tok kwP t.Kind t.S := by
  intro t ht
  obtain ⟨x, hx, rfl⟩ := List.mem_map.1 ht
  exact h x hx
theorem le_sum : ∀ (l : List Nat) (x : Nat), x ∈ l → x ≤ l.sum
  | y :: r, x, h => by
    rw [List.sum_cons]
    rcases List.mem_cons.1 h with rfl | h
    · omega
    · have := le_sum r x h; omega
end Go.Proofs.YtgibkdldfnlglaaGreatDoor
namespace Go.Proofs.YtgibkdldfnlglaaGreatDoor
open Go.Abs
set_option linter.unusedVariables false
set_option linter.unusedSimpArgs false
set_option maxRecDepth 20000
set_option maxHeartbeats 4000000

def law18_LexerForgetsSpace_L1 (n : Nat) (gaps_1 : (List (List UInt8))) (r7 : (List S_api_Lexeme) × S_api_Problem) : ((List UInt8) × Int) → Option (Lp ((List UInt8) × Int) (Lp ((List UInt8)) (Bool))) :=
 fun (out_38, i_39) =>
  cond (decide (i_39 < (r7.1.length : Int)))
   (bindJ (S := (List UInt8))
    (cond (decide (0 < (gaps_1.length : Int)))
     (need ((gaps_1.length : Int) ≠ 0) (
     idx gaps_1 (i_39.tmod (gaps_1.length : Int)) fun x54 =>
     bindJ (S := Bool)
      (cond (decide (100 < (x54.length : Int)))
       (some (.go true))
       (obind (law18_blank n x54) fun r61 =>
       some (.go (!r61))))
     (fun b55 =>
      cond b55
       (obind (law18_sanity n) fun r64 =>
       some (.stop (.stop (.stop r64))))
       (need (out_38.length + x54.length ≤ 4294967296) (
       some (.go (out_38 ++ x54)))))))
     (some (.go out_38)))
   (fun out_46 =>
    need (0 ≤ i_39 ∧ i_39 ≤ (IntKind.i64.wrap (i_39 + 1)) ∧ (IntKind.i64.wrap (i_39 + 1)) ≤ (r7.1.length : Int)) (
    obind (lexer_Text n ((r7.1.take (((IntKind.i64.wrap (i_39 + 1))).toNat)).drop i_39.toNat)) fun r69 =>
    cond (decide (r69.2 ≠ 0))
     (some (.stop (.stop false)))
     (need (out_46.length + ([10] : List UInt8).length ≤ 4294967296) (
     need ((out_46 ++ ([10] : List UInt8)).length + r69.1.length ≤ 4294967296) (
     some (.go (((out_46 ++ ([10] : List UInt8)) ++ r69.1), (IntKind.i64.wrap (i_39 + 1))))))))))
   (some (.stop (.go out_38)))
def law18_LexerForgetsSpace (n : Nat) (s_0 : (List UInt8)) (gaps_1 : (List (List UInt8))) : Option (Bool) :=
 cond (decide (2000 < (s_0.length : Int)) || decide (20 < (gaps_1.length : Int)))
  (obind (law18_sanity n) fun r5 =>
  some r5)
  (obind (lexer_Tokens n s_0) fun r7 =>
  cond (decide (r7.2.E ≠ 0))
   (obind (law18_sanity n) fun r12 =>
   some r12)
   (obind (lexer_Text n r7.1) fun r14 =>
   obind (lexer_Tokens n r14.1) fun r16 =>
   bindJ (S := Bool)
    (cond (decide (r14.2 ≠ 0) || decide (r16.2.E ≠ 0))
     (some (.go true))
     (obind (ref18_Same n r7.1 r16.1) fun r29 =>
     some (.go (!r29))))
   (fun b23 =>
    cond b23
     (some false)
     (bindJ (S := (List UInt8))
      (iter (law18_LexerForgetsSpace_L1 n gaps_1 r7) n (([] : List UInt8), 0))
     (fun out_32 =>
      obind (lexer_Tokens n out_32) fun r77 =>
      cond (decide (65536 < (out_32.length : Int)))
       (obind (law18_sanity n) fun r82 =>
       some (r82 && (decide (r77.2.At = 0) && (decide (r77.2.E = 2)))))
       (obind (law18_sanity n) fun r87 =>
       bindJ (S := Bool)
        (cond (r87 && (decide (r77.2.At = 0) && (decide (r77.2.E = 0))))
         (obind (ref18_Same n r7.1 r77.1) fun r98 =>
         some (.go r98))
         (some (.go false)))
       (fun b92 =>
        some b92)))))))
theorem law18_LexerForgetsSpace_ok (n : Nat) (s_0 : (List UInt8)) (gaps_1 : (List (List UInt8))) (gaps_1v : Value) {r : Bool} (h : law18_LexerForgetsSpace n s_0 gaps_1 = some r) :
  Meets Tryz.prog 7 [.string (bs s_0), gaps_1v] [ro gaps_1v 1 (gaps_1.map eStr), globA] (fun v G => v = .bool r ∧ G = []) := by
 refine fn_of_run Tryz.func7 rfl Tryz.ntmps7 rfl (fun w0 o0 => ?_)
 refine run_seq ?_
 refine run_region' ?_
 refine oy rfl rfl (y_assign rfl) ?_
 refine ops_nil ?_
 refine goes_code ?_
 refine run_seq ?_
 refine run_seq ?_
 refine run_region' ?_
 refine oy rfl rfl (y_move rfl) ?_
 refine oy rfl rfl (y_len_str rfl Tryz.runUnderlying9 rfl) ?_
 refine oy rfl rfl (y_gtr rfl rfl) ?_
 refine oy rfl rfl (y_move rfl) ?_
 refine ops_cut 4 (Bool) (fun σ => [(0, .string (bs s_0)), (1, gaps_1v), (25, .bool σ)]) (fun σ => [ro gaps_1v 1 (gaps_1.map eStr), globA]) (fun σ => σ = (decide (2000 < (s_0.length : Int)) || decide (20 < (gaps_1.length : Int)))) (fun L1 hL2 => ?_) ?_
 ·refine ops_split 21 (decide (2000 < (s_0.length : Int))) rfl (fun hg3 => ?_) (fun hg3 => ?_)
  ·skip
   refine ops_no 3 false 21 rfl rfl rfl rfl rfl ?_
   refine ops_no 3 false 21 rfl rfl rfl rfl rfl ?_
   refine ops_no 3 false 21 rfl rfl rfl rfl rfl ?_
   refine oy rfl rfl (y_pick (b := true) rfl rfl) ?_
   refine ops_nil ?_
   exact goes_cut hL2 true [0, 1] (qv3 rfl rfl rfl) (by decide) rfl (by rw [hg3]; simp)
  ·skip
   refine ops_y (wg 3 false 21 rfl rfl rfl rfl) rfl (y_move rfl) ?_
   refine ops_y (wg 3 false 21 rfl rfl rfl rfl) rfl ((y_len 0 rfl Tryz.runUnderlying39 rfl rfl reads_ro).to (v_len eStr _)) ?_
   refine ops_y (wg 3 false 21 rfl rfl rfl rfl) rfl (y_gtr rfl rfl) ?_
   refine oy rfl rfl (y_pick (b := false) rfl rfl) ?_
   refine ops_nil ?_
   exact goes_cut hL2 (decide (20 < (gaps_1.length : Int))) [0, 1] (qv3 rfl rfl rfl) (by decide) rfl (by rw [hg3]; simp)
 rintro _ rfl
 refine ops_nil ?_
 refine goes_code ?_
 refine run_cond (decide (2000 < (s_0.length : Int)) || decide (20 < (gaps_1.length : Int))) rfl (fun hc4 => ?_) (fun hc4 => ?_)
 ·replace h := cond_t h hc4
  refine run_seq ?_
  refine run_region' ?_
  obtain ⟨r5, hr6, h⟩ := obind_some h
  refine ot rfl rfl (t_callx (vs := []) (cs := []) [(1, 0)] rfl Tryz.call9 rfl (law18_sanity_ok n    hr6) (showsX_view 1 rfl views_glob showsX_nil) rfl (.inl rfl)) ?_
  rintro _ _ ⟨_, ⟨rfl, rfl⟩, rfl⟩
  refine oy rfl rfl (y_assign rfl) ?_
  refine ops_nil ?_
  refine goes_code ?_
  refine run_ret ?_
  obtain rfl := some_eq h
  refine fin_slots [4] [.bool r5] [] [] Tryz.results7 rfl (by decide) rfl ?_
  exact ⟨rfl, rfl⟩
 ·replace h := cond_f h hc4
  refine run_skip ?_
  refine goes_code ?_
  refine run_seq ?_
  refine run_region' ?_
  refine oy rfl rfl (y_move rfl) ?_
  obtain ⟨r7, hr8, h⟩ := obind_some h
  refine ot rfl rfl (t_callx (vs := [.string (bs s_0)]) (cs := []) [(1, 0)] rfl Tryz.call10 rfl (lexer_Tokens_ok n  s_0  hr8) (showsX_view 1 rfl views_glob showsX_nil) rfl (.inl rfl)) ?_
  rintro _ _ ⟨_, ⟨v9, rfl, rfl⟩, rfl⟩
  refine oy rfl rfl (y_move rfl) ?_
  refine oy rfl rfl (y_extract rfl rfl) ?_
  refine oy rfl rfl (y_extract rfl rfl) ?_
  refine ot rfl rfl (t_alloc Tryz.zeroValue26) ?_
  rintro _ _ ⟨b10, rfl, rfl⟩
  refine oy rfl rfl (y_assign rfl) ?_
  refine ot rfl rfl (t_store 3 Tryz.sizeOf26 rfl rfl rfl rfl (by simp [Value.cells, boxP]) (by simp [Value.cells, Value.oneCell', boxP])) ?_
  rintro _ _ ⟨rfl, rfl⟩
  refine ops_turn (retell 3 (g := box b10 [.int .i64 r7.2.At, .int .i64 r7.2.E]) rfl rfl) ?_
  refine ops_nil ?_
  refine goes_code ?_
  refine run_seq ?_
  refine run_seq ?_
  refine run_weak [(1, gaps_1v), (6, boxP b10 0), (5, v9)] [0, 1, 2, 3] [ro gaps_1v 1 (gaps_1.map eStr), globA, row v9 3 (r7.1.map S_api_Lexeme.enc), box b10 [.int .i64 r7.2.At, .int .i64 r7.2.E]] (qv3 rfl rfl rfl) (by decide) rfl ?_
  refine run_region' ?_
  refine oy rfl rfl (y_fieldAddr_box (sz := 0) Tryz.runUnderlying26 rfl Tryz.sizeOf24 rfl) ?_
  refine oy rfl rfl (y_load_box 3 Tryz.isAgg24 rfl rfl rfl) ?_
  refine oy rfl rfl (y_neq rfl rfl) ?_
  refine ops_nil ?_
  refine goes_code ?_
  refine run_cond (decide (r7.2.E ≠ 0)) rfl (fun hc11 => ?_) (fun hc11 => ?_)
  ·replace h := cond_t h hc11
   refine run_seq ?_
   refine run_region' ?_
   obtain ⟨r12, hr13, h⟩ := obind_some h
   refine ot rfl rfl (t_callx (vs := []) (cs := []) [(1, 0)] rfl Tryz.call9 rfl (law18_sanity_ok n    hr13) (showsX_view 1 rfl views_glob showsX_nil) rfl (.inl rfl)) ?_
   rintro _ _ ⟨_, ⟨rfl, rfl⟩, rfl⟩
   refine oy rfl rfl (y_assign rfl) ?_
   refine ops_nil ?_
   refine goes_code ?_
   refine run_ret ?_
   obtain rfl := some_eq h
   refine fin_slots [4] [.bool r12] [] [] Tryz.results7 rfl (by decide) rfl ?_
   exact ⟨rfl, rfl⟩
  ·replace h := cond_f h hc11
   refine run_skip ?_
   refine goes_code ?_
   refine run_seq ?_
   refine run_region' ?_
   refine oy rfl rfl (y_move rfl) ?_
   obtain ⟨r14, hr15, h⟩ := obind_some h
   refine ot rfl rfl (t_callx (vs := [v9]) (cs := []) [(2, 1), (1, 0)] rfl Tryz.call22 rfl (lexer_Text_ok n  r7.1 v9 hr15) (showsX_look 2 rfl views_row (showsX_view 1 rfl views_glob showsX_nil)) rfl (.inr (by rintro _ _ ⟨rfl, rfl⟩ g hg; first | (cases hg; done) | (simp only [List.mem_cons, List.not_mem_nil, or_false] at hg; first | (subst hg; first | exact strict_row | exact strict_box) | (rcases hg with rfl | rfl <;> first | exact strict_row | exact strict_box) | (rcases hg with rfl | rfl | rfl <;> first | exact strict_row | exact strict_box))))) ?_
   rintro _ _ ⟨_, ⟨rfl, rfl⟩, rfl⟩
   refine oy rfl rfl (y_move rfl) ?_
   refine oy rfl rfl (y_extract rfl rfl) ?_
   refine oy rfl rfl (y_extract rfl rfl) ?_
   refine oy rfl rfl (y_assign rfl) ?_
   refine oy rfl rfl (y_assign rfl) ?_
   refine ops_nil ?_
   refine goes_code ?_
   refine run_seq ?_
   refine run_weak [(1, gaps_1v), (5, v9), (7, .string (bs r14.1)), (8, .int .i64 r14.2)] [0, 1, 2] [ro gaps_1v 1 (gaps_1.map eStr), globA, row v9 3 (r7.1.map S_api_Lexeme.enc)] (qv4 rfl rfl rfl rfl) (by decide) rfl ?_
   refine run_region' ?_
   refine oy rfl rfl (y_move rfl) ?_
   obtain ⟨r16, hr17, h⟩ := obind_some h
   refine ot rfl rfl (t_callx (vs := [.string (bs r14.1)]) (cs := []) [(1, 0)] rfl Tryz.call10 rfl (lexer_Tokens_ok n  r14.1  hr17) (showsX_view 1 rfl views_glob showsX_nil) rfl (.inl rfl)) ?_
   rintro _ _ ⟨_, ⟨v18, rfl, rfl⟩, rfl⟩
   refine oy rfl rfl (y_move rfl) ?_
   refine oy rfl rfl (y_extract rfl rfl) ?_
   refine oy rfl rfl (y_extract rfl rfl) ?_
   refine ot rfl rfl (t_alloc Tryz.zeroValue26) ?_
   rintro _ _ ⟨b19, rfl, rfl⟩
   refine oy rfl rfl (y_assign rfl) ?_
   refine ot rfl rfl (t_store 4 Tryz.sizeOf26 rfl rfl rfl rfl (by simp [Value.cells, boxP]) (by simp [Value.cells, Value.oneCell', boxP])) ?_
   rintro _ _ ⟨rfl, rfl⟩
   refine ops_turn (retell 4 (g := box b19 [.int .i64 r16.2.At, .int .i64 r16.2.E]) rfl rfl) ?_
   refine ops_nil ?_
   refine goes_code ?_
   refine run_seq ?_
   refine run_seq ?_
   refine run_weak [(1, gaps_1v), (5, v9), (8, .int .i64 r14.2), (10, boxP b19 0), (9, v18)] [0, 1, 2, 3, 4] [ro gaps_1v 1 (gaps_1.map eStr), globA, row v9 3 (r7.1.map S_api_Lexeme.enc), row v18 3 (r16.1.map S_api_Lexeme.enc), box b19 [.int .i64 r16.2.At, .int .i64 r16.2.E]] (qv5 rfl rfl rfl rfl rfl) (by decide) rfl ?_
   refine run_region' ?_
   refine oy rfl rfl (y_move rfl) ?_
   refine oy rfl rfl (y_neq rfl rfl) ?_
   refine oy rfl rfl (y_move rfl) ?_
   refine ops_cut 4 (Bool) (fun σ => [(1, gaps_1v), (5, v9), (9, v18), (52, .bool σ)]) (fun σ => [ro gaps_1v 1 (gaps_1.map eStr), globA, row v9 3 (r7.1.map S_api_Lexeme.enc), row v18 3 (r16.1.map S_api_Lexeme.enc)]) (fun σ => σ = (decide (r14.2 ≠ 0) || decide (r16.2.E ≠ 0))) (fun L20 hL21 => ?_) ?_
   ·refine ops_split 48 (decide (r14.2 ≠ 0)) rfl (fun hg22 => ?_) (fun hg22 => ?_)
    ·skip
     refine ops_no 2 false 48 rfl rfl rfl rfl rfl ?_
     refine ops_no 2 false 48 rfl rfl rfl rfl rfl ?_
     refine ops_no 2 false 48 rfl rfl rfl rfl rfl ?_
     refine oy rfl rfl (y_pick (b := true) rfl rfl) ?_
     refine ops_nil ?_
     exact goes_cut hL21 true [0, 1, 2, 3] (qv4 rfl rfl rfl rfl) (by decide) rfl (by rw [hg22]; simp)
    ·skip
     refine ops_y (wg 2 false 48 rfl rfl rfl rfl) rfl (y_fieldAddr_box (sz := 0) Tryz.runUnderlying26 rfl Tryz.sizeOf24 rfl) ?_
     refine ops_y (wg 2 false 48 rfl rfl rfl rfl) rfl (y_load_box 4 Tryz.isAgg24 rfl rfl rfl) ?_
     refine ops_y (wg 2 false 48 rfl rfl rfl rfl) rfl (y_neq rfl rfl) ?_
     refine oy rfl rfl (y_pick (b := false) rfl rfl) ?_
     refine ops_nil ?_
     exact goes_cut hL21 (decide (r16.2.E ≠ 0)) [0, 1, 2, 3] (qv4 rfl rfl rfl rfl) (by decide) rfl (by rw [hg22]; simp)
   rintro _ rfl
   refine oy rfl rfl (y_move rfl) ?_
   obtain ⟨o24, h, ho25⟩ := bindJ_some h
   refine ops_cut 5 (Bool) (fun σ => [(1, gaps_1v), (5, v9), (58, .bool σ)]) (fun σ => [ro gaps_1v 1 (gaps_1.map eStr), globA, row v9 3 (r7.1.map S_api_Lexeme.enc)]) (fun σ => o24 = .go σ) (fun L26 hL27 => ?_) ?_
   ·refine ops_split 53 (decide (r14.2 ≠ 0) || decide (r16.2.E ≠ 0)) rfl (fun hg28 => ?_) (fun hg28 => ?_)
    ·replace h := cond_t h hg28
     refine ops_no 7 false 53 rfl rfl rfl rfl rfl ?_
     refine ops_no 7 false 53 rfl rfl rfl rfl rfl ?_
     refine ops_no 7 false 53 rfl rfl rfl rfl rfl ?_
     refine ops_no 7 false 53 rfl rfl rfl rfl rfl ?_
     refine oy rfl rfl (y_pick (b := true) rfl rfl) ?_
     refine ops_nil ?_
     obtain rfl := some_eq h
     exact goes_cut hL27 true [0, 1, 2] (qv3 rfl rfl rfl) (by decide) rfl rfl
    ·replace h := cond_f h hg28
     refine ops_y (wg 7 false 53 rfl rfl rfl rfl) rfl (y_move rfl) ?_
     refine ops_y (wg 7 false 53 rfl rfl rfl rfl) rfl (y_move rfl) ?_
     obtain ⟨r29, hr30, h⟩ := obind_some h
     refine ops_t (wg 7 false 53 rfl rfl rfl rfl) rfl (t_callx (vs := [v9, v18]) (cs := []) [(2, 1), (3, 1)] rfl Tryz.call24 rfl (ref18_Same_ok n  r7.1 r16.1 v9 v18 hr30) (showsX_look 2 rfl views_row (showsX_look 3 rfl views_row showsX_nil)) rfl (.inr (by rintro _ _ ⟨rfl, rfl⟩ g hg; first | (cases hg; done) | (simp only [List.mem_cons, List.not_mem_nil, or_false] at hg; first | (subst hg; first | exact strict_row | exact strict_box) | (rcases hg with rfl | rfl <;> first | exact strict_row | exact strict_box) | (rcases hg with rfl | rfl | rfl <;> first | exact strict_row | exact strict_box))))) ?_
     rintro _ _ ⟨_, ⟨rfl, rfl⟩, rfl⟩
     refine ops_y (wg 7 false 53 rfl rfl rfl rfl) rfl (y_not rfl) ?_
     refine oy rfl rfl (y_pick (b := false) rfl rfl) ?_
     refine ops_nil ?_
     obtain rfl := some_eq h
     exact goes_cut hL27 (!r29) [0, 1, 2] (qv3 rfl rfl rfl) (by decide) rfl rfl
   rintro b23 hj
   obtain rfl : o24 = _ := hj
   replace h := after_go ho25
   clear ho25
   refine ops_nil ?_
   refine goes_code ?_
   refine run_cond b23 rfl (fun hc31 => ?_) (fun hc31 => ?_)
   ·replace h := cond_t h hc31
    refine run_seq ?_
    refine run_region' ?_
    refine oy rfl rfl (y_assign rfl) ?_
    refine ops_nil ?_
    refine goes_code ?_
    refine run_ret ?_
    obtain rfl := some_eq h
    refine fin_slots [4] [.bool false] [] [] Tryz.results7 rfl (by decide) rfl ?_
    exact ⟨rfl, rfl⟩
   ·replace h := cond_f h hc31
    refine run_skip ?_
    refine goes_code ?_
    refine run_seq ?_
    refine run_region' ?_
    refine oy rfl rfl (y_assign rfl) ?_
    refine ops_nil ?_
    refine goes_code ?_
    obtain ⟨o34, h, ho35⟩ := bindJ_some h
    refine run_cut (((List UInt8)) × (Value)) (fun σ => [(11, σ.2), (5, v9)]) (fun σ => [row σ.2 1 (σ.1.map eB8), ro v9 3 (r7.1.map S_api_Lexeme.enc), globA]) (fun σ => o34 = .go σ.1) (fun L37 hL36 => ?_) ?_
    ·
     refine run_seq ?_
     refine run_region' ?_
     refine oy rfl rfl (y_assign rfl) ?_
     refine ops_nil ?_
     refine goes_code ?_
     refine run_block ?_
     refine run_turn (Go.Abs.freeze 2 rfl) ?_
     refine run_turn (nilrow 1) ?_
     refine run_turn (retell 3 (g := row (.slice none 0 0) 1 (([] : List UInt8).map eB8)) rfl rfl) ?_
     refine run_iter (step := law18_LexerForgetsSpace_L1 n gaps_1 r7) (n := n) (s0 := (([] : List UInt8), 0)) h (G := Value) (.slice none 0 0) (fun σ γ => [(11, γ), (12, .int .i64 σ.2), (1, gaps_1v), (5, v9)]) (fun σ γ => [row γ 1 (σ.1.map eB8), ro gaps_1v 1 (gaps_1.map eStr), ro v9 3 (r7.1.map S_api_Lexeme.enc), globA]) [3, 0, 2, 1] (qv4 rfl rfl rfl rfl) (by decide) rfl ?_
     rintro ⟨out_38, i_39⟩ v40 o41 h L44 hgo42 hstop43
     change Run _ _ _ (VF.of [(11, v40), (12, .int .i64 i_39), (1, gaps_1v), (5, v9)]) [row v40 1 (out_38.map eB8), ro gaps_1v 1 (gaps_1.map eStr), ro v9 3 (r7.1.map S_api_Lexeme.enc), globA]
     refine run_seq ?_
     refine run_seq ?_
     refine run_region' ?_
     refine oy rfl rfl (y_move rfl) ?_
     refine oy rfl rfl (y_move rfl) ?_
     refine oy rfl rfl ((y_len 2 rfl Tryz.runUnderlying23 rfl rfl reads_ro).to (v_len S_api_Lexeme.enc _)) ?_
     refine oy rfl rfl (y_lss rfl rfl) ?_
     refine ops_nil ?_
     refine goes_code ?_
     refine run_cond (decide (i_39 < (r7.1.length : Int))) rfl (fun hc45 => ?_) (fun hc45 => ?_)
     ·replace h := cond_t h hc45
      refine run_skip ?_
      refine goes_code ?_
      refine run_seq ?_
      refine run_block ?_
      obtain ⟨o48, h, ho49⟩ := bindJ_some h
      refine run_cut (((List UInt8)) × (Value)) (fun σ => [(11, σ.2), (1, gaps_1v), (5, v9), (12, .int .i64 i_39)]) (fun σ => [row σ.2 1 (σ.1.map eB8), ro gaps_1v 1 (gaps_1.map eStr), ro v9 3 (r7.1.map S_api_Lexeme.enc), globA]) (fun σ => o48 = .go σ.1) (fun L51 hL50 => ?_) ?_
      ·
       refine run_seq ?_
       refine run_region' ?_
       refine oy rfl rfl (y_move rfl) ?_
       refine oy rfl rfl ((y_len 1 rfl Tryz.runUnderlying39 rfl rfl reads_ro).to (v_len eStr _)) ?_
       refine oy rfl rfl (y_gtr rfl rfl) ?_
       refine ops_nil ?_
       refine goes_code ?_
       refine run_cond (decide (0 < (gaps_1.length : Int))) rfl (fun hc52 => ?_) (fun hc52 => ?_)
       ·replace h := cond_t h hc52
        refine run_seq ?_
        refine run_region' ?_
        refine oy rfl rfl (y_move rfl) ?_
        refine oy rfl rfl (y_move rfl) ?_
        refine oy rfl rfl (y_move rfl) ?_
        refine oy rfl rfl ((y_len 1 rfl Tryz.runUnderlying39 rfl rfl reads_ro).to (v_len eStr _)) ?_
        obtain ⟨hd53, h⟩ := need_some h
        refine oy rfl rfl (y_rem rfl rfl hd53) ?_
        obtain ⟨x54, hzx54, hlx54, hxx54, h⟩ := idx_some h
        refine oy rfl rfl (y_indexAddrI (kd := .i64) (i := (i_39.tmod (gaps_1.length : Int))) 1 Tryz.runUnderlying39 Tryz.sizeOf9 rfl rfl rfl reads_ro hzx54 (map_lt hlx54)) ?_
        refine oy rfl rfl (y_load_elem (i := ((i_39.tmod (gaps_1.length : Int))).toNat) 1 Tryz.isAgg9 rfl rfl reads_ro (map_get hxx54)) ?_
        refine oy rfl rfl (y_assign rfl) ?_
        refine ops_nil ?_
        refine goes_code ?_
        refine run_seq ?_
        refine run_seq ?_
        refine run_weak [(11, v40), (12, .int .i64 i_39), (1, gaps_1v), (5, v9), (13, .string (bs x54))] [0, 1, 2, 3] [row v40 1 (out_38.map eB8), ro gaps_1v 1 (gaps_1.map eStr), ro v9 3 (r7.1.map S_api_Lexeme.enc), globA] (qv5 rfl rfl rfl rfl rfl) (by decide) rfl ?_
        refine run_region' ?_
        refine oy rfl rfl (y_move rfl) ?_
        refine oy rfl rfl (y_len_str rfl Tryz.runUnderlying9 rfl) ?_
        refine oy rfl rfl (y_gtr rfl rfl) ?_
        refine oy rfl rfl (y_move rfl) ?_
        obtain ⟨o56, h, ho57⟩ := bindJ_some h
        refine ops_cut 4 (Bool) (fun σ => [(11, v40), (12, .int .i64 i_39), (1, gaps_1v), (5, v9), (13, .string (bs x54)), (82, .bool σ)]) (fun σ => [row v40 1 (out_38.map eB8), ro gaps_1v 1 (gaps_1.map eStr), ro v9 3 (r7.1.map S_api_Lexeme.enc), globA]) (fun σ => o56 = .go σ) (fun L58 hL59 => ?_) ?_
        ·refine ops_split 78 (decide (100 < (x54.length : Int))) rfl (fun hg60 => ?_) (fun hg60 => ?_)
         ·replace h := cond_t h hg60
          refine ops_no 3 false 78 rfl rfl rfl rfl rfl ?_
          refine ops_no 3 false 78 rfl rfl rfl rfl rfl ?_
          refine ops_no 3 false 78 rfl rfl rfl rfl rfl ?_
          refine oy rfl rfl (y_pick (b := true) rfl rfl) ?_
          refine ops_nil ?_
          obtain rfl := some_eq h
          exact goes_cut hL59 true [0, 1, 2, 3] (qv6 rfl rfl rfl rfl rfl rfl) (by decide) rfl rfl
         ·replace h := cond_f h hg60
          refine ops_y (wg 3 false 78 rfl rfl rfl rfl) rfl (y_move rfl) ?_
          obtain ⟨r61, hr62, h⟩ := obind_some h
          refine ops_t (wg 3 false 78 rfl rfl rfl rfl) rfl (t_callx (vs := [.string (bs x54)]) (cs := []) [(3, 0)] rfl Tryz.call25 rfl (law18_blank_ok n  x54  hr62) (showsX_view 3 rfl views_glob showsX_nil) rfl (.inl rfl)) ?_
          rintro _ _ ⟨_, ⟨rfl, rfl⟩, rfl⟩
          refine ops_y (wg 3 false 78 rfl rfl rfl rfl) rfl (y_not rfl) ?_
          refine oy rfl rfl (y_pick (b := false) rfl rfl) ?_
          refine ops_nil ?_
          obtain rfl := some_eq h
          exact goes_cut hL59 (!r61) [0, 1, 2, 3] (qv6 rfl rfl rfl rfl rfl rfl) (by decide) rfl rfl
        rintro b55 hj
        obtain rfl : o56 = _ := hj
        replace h := after_go ho57
        clear ho57
        refine ops_nil ?_
        refine goes_code ?_
        refine run_cond b55 rfl (fun hc63 => ?_) (fun hc63 => ?_)
        ·replace h := cond_t h hc63
         refine run_seq ?_
         refine run_region' ?_
         obtain ⟨r64, hr65, h⟩ := obind_some h
         refine ot rfl rfl (t_callx (vs := []) (cs := []) [(3, 0)] rfl Tryz.call9 rfl (law18_sanity_ok n    hr65) (showsX_view 3 rfl views_glob showsX_nil) rfl (.inl rfl)) ?_
         rintro _ _ ⟨_, ⟨rfl, rfl⟩, rfl⟩
         refine oy rfl rfl (y_assign rfl) ?_
         refine ops_nil ?_
         refine goes_code ?_
         refine run_ret ?_
         obtain rfl := some_eq h
         obtain rfl := after_stop ho49
         skip
         obtain rfl := hstop43 _ rfl
         skip
         obtain rfl := after_stop ho35
         refine fin_slots [4] [.bool r64] [] [] Tryz.results7 rfl (by decide) rfl ?_
         exact ⟨rfl, rfl⟩
        ·replace h := cond_f h hc63
         refine run_skip ?_
         refine goes_code ?_
         refine run_region' ?_
         refine oy rfl rfl (y_move rfl) ?_
         refine oy rfl rfl (y_move rfl) ?_
         obtain ⟨hr67, h⟩ := need_some h
         refine ot rfl rfl (t_append (es := 1) 0 rfl Tryz.runUnderlying47 rfl Tryz.runUnderlying9 (.inl rfl) Tryz.typeInfo5 rfl (by decide) Tryz.zeroValue5 rfl rfl rfl rfl (src_str _) (map_room hr67 (by decide)) (map_fit hr67)) ?_
         rintro v66 _ rfl
         refine ops_turn (retell 0 (g := row v66 1 ((out_38 ++ x54).map eB8)) rfl (congrArg (row _ _) List.map_append.symm)) ?_
         refine oy rfl rfl (y_assign rfl) ?_
         refine ops_nil ?_
         obtain rfl := some_eq h
         exact goes_cut hL50 ((out_38 ++ x54), v66) [0, 1, 2, 3] (qv4 rfl rfl rfl rfl) (by decide) rfl rfl
       ·replace h := cond_f h hc52
        refine run_skip ?_
        obtain rfl := some_eq h
        exact goes_cut hL50 (out_38, v40) [0, 1, 2, 3] (qv4 rfl rfl rfl rfl) (by decide) rfl rfl
      rintro ⟨out_46, v47⟩ hj
      obtain rfl : o48 = _ := hj
      replace h := after_go ho49
      clear ho49
      change Run _ _ _ (VF.of [(11, v47), (1, gaps_1v), (5, v9), (12, .int .i64 i_39)]) [row v47 1 (out_46.map eB8), ro gaps_1v 1 (gaps_1.map eStr), ro v9 3 (r7.1.map S_api_Lexeme.enc), globA]
      refine run_seq ?_
      refine run_region' ?_
      refine oy rfl rfl (y_move rfl) ?_
      refine oy rfl rfl (y_move rfl) ?_
      refine oy rfl rfl (y_move rfl) ?_
      refine oy rfl rfl (y_add rfl rfl) ?_
      obtain ⟨hb68, h⟩ := need_some h
      refine oy rfl rfl (y_slice (l := i_39) (r := (IntKind.i64.wrap (i_39 + 1))) 2 Tryz.runUnderlying23 Tryz.sizeOf44 rfl rfl reads_ro (bi1 (kd := .i64) rfl) (bi1 (kd := .i64) rfl) hb68.1 hb68.2.1 (map_len_le hb68.2.2)) ?_
      refine ops_turn (turn_sub (l := i_39.toNat) (r := ((IntKind.i64.wrap (i_39 + 1))).toNat) 2 rfl (by omega) (map_toNat_le hb68.2.2)) ?_
      refine ops_turn (retell 4 (g := ro (subS v9 3 i_39.toNat (((IntKind.i64.wrap (i_39 + 1))).toNat)) 3 (((r7.1.take (((IntKind.i64.wrap (i_39 + 1))).toNat)).drop i_39.toNat).map S_api_Lexeme.enc)) rfl (congrArg (ro _ _) (map_sub _ _ _))) ?_
      obtain ⟨r69, hr70, h⟩ := obind_some h
      refine ot rfl rfl (t_callx (vs := [(subS v9 3 i_39.toNat (((IntKind.i64.wrap (i_39 + 1))).toNat))]) (cs := []) [(4, 0), (3, 0)] rfl Tryz.call22 rfl (lexer_Text_ok n  ((r7.1.take (((IntKind.i64.wrap (i_39 + 1))).toNat)).drop i_39.toNat) (subS v9 3 i_39.toNat (((IntKind.i64.wrap (i_39 + 1))).toNat)) hr70) (showsX_view 4 rfl views_ro (showsX_view 3 rfl views_glob showsX_nil)) rfl (.inl rfl)) ?_
      rintro _ _ ⟨_, ⟨rfl, rfl⟩, rfl⟩
      refine oy rfl rfl (y_move rfl) ?_
      refine oy rfl rfl (y_extract rfl rfl) ?_
      refine oy rfl rfl (y_extract rfl rfl) ?_
      refine oy rfl rfl (y_assign rfl) ?_
      refine oy rfl rfl (y_assign rfl) ?_
      refine ops_nil ?_
      refine goes_code ?_
      refine run_seq ?_
      refine run_seq ?_
      refine run_weak [(11, v47), (1, gaps_1v), (5, v9), (12, .int .i64 i_39), (14, .string (bs r69.1)), (15, .int .i64 r69.2)] [0, 1, 2, 3] [row v47 1 (out_46.map eB8), ro gaps_1v 1 (gaps_1.map eStr), ro v9 3 (r7.1.map S_api_Lexeme.enc), globA] (qv6 rfl rfl rfl rfl rfl rfl) (by decide) rfl ?_
      refine run_region' ?_
      refine oy rfl rfl (y_move rfl) ?_
      refine oy rfl rfl (y_neq rfl rfl) ?_
      refine ops_nil ?_
      refine goes_code ?_
      refine run_cond (decide (r69.2 ≠ 0)) rfl (fun hc71 => ?_) (fun hc71 => ?_)
      ·replace h := cond_t h hc71
       refine run_seq ?_
       refine run_region' ?_
       refine oy rfl rfl (y_assign rfl) ?_
       refine ops_nil ?_
       refine goes_code ?_
       refine run_ret ?_
       obtain rfl := some_eq h
       obtain rfl := hstop43 _ rfl
       skip
       obtain rfl := after_stop ho35
       refine fin_slots [4] [.bool false] [] [] Tryz.results7 rfl (by decide) rfl ?_
       exact ⟨rfl, rfl⟩
      ·replace h := cond_f h hc71
       refine run_skip ?_
       refine goes_code ?_
       refine run_region' ?_
       refine oy rfl rfl (y_move rfl) ?_
       refine ot rfl rfl (t_lit [.int .u8 10] Tryz.runUnderlying47 Tryz.sizeOf5 Tryz.zeroValue5 rfl (by decide) (by decide) rfl (by simp [Value.cells, boxP])) ?_
       rintro v72 _ ⟨rfl, _⟩
       refine ops_turn (retell 4 (g := row v72 1 (([10] : List UInt8).map eB8)) rfl rfl) ?_
       obtain ⟨hr74, h⟩ := need_some h
       refine ot rfl rfl (t_append (es := 1) 0 rfl Tryz.runUnderlying47 rfl Tryz.runUnderlying47 (.inr ⟨_, rfl⟩) Tryz.typeInfo5 rfl (by decide) Tryz.zeroValue5 rfl rfl rfl rfl (src_reads 4 rfl reads_row (map_ok eB8_ok _)) (map_room hr74 (by decide)) (map_fit hr74)) ?_
       rintro v73 _ rfl
       refine ops_turn (retell 0 (g := row v73 1 ((out_46 ++ ([10] : List UInt8)).map eB8)) rfl (congrArg (row _ _) List.map_append.symm)) ?_
       refine oy rfl rfl (y_move rfl) ?_
       obtain ⟨hr76, h⟩ := need_some h
       refine ot rfl rfl (t_append (es := 1) 0 rfl Tryz.runUnderlying47 rfl Tryz.runUnderlying9 (.inl rfl) Tryz.typeInfo5 rfl (by decide) Tryz.zeroValue5 rfl rfl rfl rfl (src_str _) (map_room hr76 (by decide)) (map_fit hr76)) ?_
       rintro v75 _ rfl
       refine ops_turn (retell 0 (g := row v75 1 (((out_46 ++ ([10] : List UInt8)) ++ r69.1).map eB8)) rfl (congrArg (row _ _) List.map_append.symm)) ?_
       refine oy rfl rfl (y_assign rfl) ?_
       refine ops_nil ?_
       refine goes_blk ?_
       refine goes_code ?_
       refine run_weak [(11, v75), (1, gaps_1v), (5, v9), (12, .int .i64 i_39)] [0, 1, 2, 3] [row v75 1 (((out_46 ++ ([10] : List UInt8)) ++ r69.1).map eB8), ro gaps_1v 1 (gaps_1.map eStr), ro v9 3 (r7.1.map S_api_Lexeme.enc), globA] (qv4 rfl rfl rfl rfl) (by decide) rfl ?_
       refine run_region' ?_
       refine oy rfl rfl (y_move rfl) ?_
       refine oy rfl rfl (y_add rfl rfl) ?_
       refine oy rfl rfl (y_assign rfl) ?_
       refine ops_nil ?_
       obtain rfl := some_eq h
       exact goes_iter hgo42 (((out_46 ++ ([10] : List UInt8)) ++ r69.1), (IntKind.i64.wrap (i_39 + 1))) v75 [0, 1, 2, 3] rfl (qv4 rfl rfl rfl rfl) (by decide) rfl
     ·replace h := cond_f h hc45
      refine run_exit _ rfl ?_
      obtain rfl := some_eq h
      obtain rfl := hstop43 _ rfl
      exact goes_cut hL36 (out_38, v40) [0, 2, 3] (qv2 rfl rfl) (by decide) rfl rfl
    rintro ⟨out_32, v33⟩ hj
    obtain rfl : o34 = _ := hj
    replace h := after_go ho35
    clear ho35
    change Run _ _ _ (VF.of [(11, v33), (5, v9)]) [row v33 1 (out_32.map eB8), ro v9 3 (r7.1.map S_api_Lexeme.enc), globA]
    refine run_seq ?_
    refine run_region' ?_
    refine oy rfl rfl (y_move rfl) ?_
    refine oy rfl rfl (y_b2s (l := out_32) 0 Tryz.runUnderlying47 Tryz.runUnderlying5 Tryz.runUnderlying9 rfl rfl reads_row) ?_
    obtain ⟨r77, hr78, h⟩ := obind_some h
    refine ot rfl rfl (t_callx (vs := [.string (bs out_32)]) (cs := []) [(2, 0)] rfl Tryz.call10 rfl (lexer_Tokens_ok n  out_32  hr78) (showsX_view 2 rfl views_glob showsX_nil) rfl (.inl rfl)) ?_
    rintro _ _ ⟨_, ⟨v79, rfl, rfl⟩, rfl⟩
    refine oy rfl rfl (y_move rfl) ?_
    refine oy rfl rfl (y_extract rfl rfl) ?_
    refine oy rfl rfl (y_extract rfl rfl) ?_
    refine ot rfl rfl (t_alloc Tryz.zeroValue26) ?_
    rintro _ _ ⟨b80, rfl, rfl⟩
    refine oy rfl rfl (y_assign rfl) ?_
    refine ot rfl rfl (t_store 4 Tryz.sizeOf26 rfl rfl rfl rfl (by simp [Value.cells, boxP]) (by simp [Value.cells, Value.oneCell', boxP])) ?_
    rintro _ _ ⟨rfl, rfl⟩
    refine ops_turn (retell 4 (g := box b80 [.int .i64 r77.2.At, .int .i64 r77.2.E]) rfl rfl) ?_
    refine ops_nil ?_
    refine goes_code ?_
    refine run_seq ?_
    refine run_seq ?_
    refine run_weak [(11, v33), (5, v9), (17, boxP b80 0), (16, v79)] [0, 1, 2, 3, 4] [row v33 1 (out_32.map eB8), ro v9 3 (r7.1.map S_api_Lexeme.enc), globA, row v79 3 (r77.1.map S_api_Lexeme.enc), box b80 [.int .i64 r77.2.At, .int .i64 r77.2.E]] (qv4 rfl rfl rfl rfl) (by decide) rfl ?_
    refine run_region' ?_
    refine oy rfl rfl (y_move rfl) ?_
    refine oy rfl rfl ((y_len 0 rfl Tryz.runUnderlying47 rfl rfl reads_row).to (v_len eB8 _)) ?_
    refine oy rfl rfl (y_gtr rfl rfl) ?_
    refine ops_nil ?_
    refine goes_code ?_
    refine run_cond (decide (65536 < (out_32.length : Int))) rfl (fun hc81 => ?_) (fun hc81 => ?_)
    ·replace h := cond_t h hc81
     refine run_seq ?_
     refine run_region' ?_
     obtain ⟨r82, hr83, h⟩ := obind_some h
     refine ot rfl rfl (t_callx (vs := []) (cs := []) [(2, 0)] rfl Tryz.call9 rfl (law18_sanity_ok n    hr83) (showsX_view 2 rfl views_glob showsX_nil) rfl (.inl rfl)) ?_
     rintro _ _ ⟨_, ⟨rfl, rfl⟩, rfl⟩
     refine oy rfl rfl (y_move rfl) ?_
     refine ops_cut 4 (Bool) (fun σ => [(117, .bool σ)]) (fun σ => [globA]) (fun σ => σ = (r82 && (decide (r77.2.At = 0) && (decide (r77.2.E = 2))))) (fun L84 hL85 => ?_) ?_
     ·refine ops_split 113 r82 rfl (fun hg86 => ?_) (fun hg86 => ?_)
      ·skip
       refine ops_y (wg 1 true 113 rfl rfl rfl rfl) rfl (y_load_boxagg (c := [.int .i64 r77.2.At, .int .i64 r77.2.E]) 4 Tryz.isAgg26 Tryz.sizeOf26 rfl rfl rfl) ?_
       refine ops_y (wg 1 true 113 rfl rfl rfl rfl) rfl (y_build_struct (cells := #[.int .i64 0, .int .i64 2]) [(1, .int .i64 2)] [(1, [.int .i64 2])] Tryz.zeroValue26 Tryz.runUnderlying26 (fs_cons Tryz.sizeOf3 (fs_cons Tryz.sizeOf24 fs_nil)) rfl rfl rfl) ?_
       refine ops_y (wg 1 true 113 rfl rfl rfl rfl) rfl (y_eqS (by kernel_rfl) (by kernel_rfl) Tryz.runUnderlying26 rfl rfl (.cons (eqf_int (by decide) Tryz.runUnderlying3 Tryz.isAgg3 rfl rfl) (.cons (eqf_int (by decide) Tryz.runUnderlying24 Tryz.isAgg24 rfl rfl) EqFs.nil))) ?_
       refine oy rfl rfl (y_pick (b := true) rfl rfl) ?_
       refine ops_nil ?_
       exact goes_cut hL85 (decide (r77.2.At = 0) && (decide (r77.2.E = 2))) [2] (qv1 rfl) (by decide) rfl (by rw [hg86]; simp)
      ·skip
       refine ops_no 1 true 113 rfl rfl rfl rfl rfl ?_
       refine ops_no 1 true 113 rfl rfl rfl rfl rfl ?_
       refine ops_no 1 true 113 rfl rfl rfl rfl rfl ?_
       refine oy rfl rfl (y_pick (b := false) rfl rfl) ?_
       refine ops_nil ?_
       exact goes_cut hL85 false [2] (qv1 rfl) (by decide) rfl (by rw [hg86]; simp)
     rintro _ rfl
     refine oy rfl rfl (y_assign rfl) ?_
     refine ops_nil ?_
     refine goes_code ?_
     refine run_ret ?_
     obtain rfl := some_eq h
     refine fin_slots [4] [.bool (r82 && (decide (r77.2.At = 0) && (decide (r77.2.E = 2))))] [] [] Tryz.results7 rfl (by decide) rfl ?_
     exact ⟨rfl, rfl⟩
    ·replace h := cond_f h hc81
     refine run_skip ?_
     refine goes_code ?_
     refine run_seq ?_
     refine run_region' ?_
     obtain ⟨r87, hr88, h⟩ := obind_some h
     refine ot rfl rfl (t_callx (vs := []) (cs := []) [(2, 0)] rfl Tryz.call9 rfl (law18_sanity_ok n    hr88) (showsX_view 2 rfl views_glob showsX_nil) rfl (.inl rfl)) ?_
     rintro _ _ ⟨_, ⟨rfl, rfl⟩, rfl⟩
     refine oy rfl rfl (y_move rfl) ?_
     refine ops_cut 4 (Bool) (fun σ => [(5, v9), (16, v79), (123, .bool σ)]) (fun σ => [ro v9 3 (r7.1.map S_api_Lexeme.enc), globA, row v79 3 (r77.1.map S_api_Lexeme.enc)]) (fun σ => σ = (r87 && (decide (r77.2.At = 0) && (decide (r77.2.E = 0))))) (fun L89 hL90 => ?_) ?_
     ·refine ops_split 119 r87 rfl (fun hg91 => ?_) (fun hg91 => ?_)
      ·skip
       refine ops_y (wg 1 true 119 rfl rfl rfl rfl) rfl (y_load_boxagg (c := [.int .i64 r77.2.At, .int .i64 r77.2.E]) 4 Tryz.isAgg26 Tryz.sizeOf26 rfl rfl rfl) ?_
       refine ops_y (wg 1 true 119 rfl rfl rfl rfl) rfl (y_build_struct (cells := #[.int .i64 0, .int .i64 0]) [] [] Tryz.zeroValue26 Tryz.runUnderlying26 (fs_cons Tryz.sizeOf3 (fs_cons Tryz.sizeOf24 fs_nil)) rfl rfl rfl) ?_
       refine ops_y (wg 1 true 119 rfl rfl rfl rfl) rfl (y_eqS (by kernel_rfl) (by kernel_rfl) Tryz.runUnderlying26 rfl rfl (.cons (eqf_int (by decide) Tryz.runUnderlying3 Tryz.isAgg3 rfl rfl) (.cons (eqf_int (by decide) Tryz.runUnderlying24 Tryz.isAgg24 rfl rfl) EqFs.nil))) ?_
       refine oy rfl rfl (y_pick (b := true) rfl rfl) ?_
       refine ops_nil ?_
       exact goes_cut hL90 (decide (r77.2.At = 0) && (decide (r77.2.E = 0))) [1, 2, 3] (qv3 rfl rfl rfl) (by decide) rfl (by rw [hg91]; simp)
      ·skip
       refine ops_no 1 true 119 rfl rfl rfl rfl rfl ?_
       refine ops_no 1 true 119 rfl rfl rfl rfl rfl ?_
       refine ops_no 1 true 119 rfl rfl rfl rfl rfl ?_
       refine oy rfl rfl (y_pick (b := false) rfl rfl) ?_
       refine ops_nil ?_
       exact goes_cut hL90 false [1, 2, 3] (qv3 rfl rfl rfl) (by decide) rfl (by rw [hg91]; simp)
     rintro _ rfl
     refine oy rfl rfl (y_move rfl) ?_
     obtain ⟨o93, h, ho94⟩ := bindJ_some h
     refine ops_cut 4 (Bool) (fun σ => [(128, .bool σ)]) (fun σ => [globA]) (fun σ => o93 = .go σ) (fun L95 hL96 => ?_) ?_
     ·refine ops_split 124 (r87 && (decide (r77.2.At = 0) && (decide (r77.2.E = 0)))) rfl (fun hg97 => ?_) (fun hg97 => ?_)
      ·replace h := cond_t h hg97
       refine ops_y (wg 6 true 124 rfl rfl rfl rfl) rfl (y_move rfl) ?_
       refine ops_y (wg 6 true 124 rfl rfl rfl rfl) rfl (y_move rfl) ?_
       obtain ⟨r98, hr99, h⟩ := obind_some h
       refine ops_t (wg 6 true 124 rfl rfl rfl rfl) rfl (t_callx (vs := [v9, v79]) (cs := []) [(0, 0), (2, 1)] rfl Tryz.call24 rfl (ref18_Same_ok n  r7.1 r77.1 v9 v79 hr99) (showsX_view 0 rfl views_ro (showsX_look 2 rfl views_row showsX_nil)) rfl (.inr (by rintro _ _ ⟨rfl, rfl⟩ g hg; first | (cases hg; done) | (simp only [List.mem_cons, List.not_mem_nil, or_false] at hg; first | (subst hg; first | exact strict_row | exact strict_box) | (rcases hg with rfl | rfl <;> first | exact strict_row | exact strict_box) | (rcases hg with rfl | rfl | rfl <;> first | exact strict_row | exact strict_box))))) ?_
       rintro _ _ ⟨_, ⟨rfl, rfl⟩, rfl⟩
       refine oy rfl rfl (y_pick (b := true) rfl rfl) ?_
       refine ops_nil ?_
       obtain rfl := some_eq h
       exact goes_cut hL96 r98 [1] (qv1 rfl) (by decide) rfl rfl
      ·replace h := cond_f h hg97
       refine ops_no 6 true 124 rfl rfl rfl rfl rfl ?_
       refine ops_no 6 true 124 rfl rfl rfl rfl rfl ?_
       refine ops_no 6 true 124 rfl rfl rfl rfl rfl ?_
       refine oy rfl rfl (y_pick (b := false) rfl rfl) ?_
       refine ops_nil ?_
       obtain rfl := some_eq h
       exact goes_cut hL96 false [1] (qv1 rfl) (by decide) rfl rfl
     rintro b92 hj
     obtain rfl : o93 = _ := hj
     replace h := after_go ho94
     clear ho94
     refine oy rfl rfl (y_assign rfl) ?_
     refine ops_nil ?_
     refine goes_code ?_
     refine run_ret ?_
     obtain rfl := some_eq h
     refine fin_slots [4] [.bool b92] [] [] Tryz.results7 rfl (by decide) rfl ?_
     exact ⟨rfl, rfl⟩

end Go.Proofs.YtgibkdldfnlglaaGreatDoor
