/-
  Texts that stand side by side: LexP, Pa, Pb, Pc, Pd.
-/
import Derived.Test.YtgibkdldfnlglaaGreatDoorM2
import Derived.Test.YtgibkdldfnlglaaGreatDoorFb
namespace Go.Lex
def sm (b : UInt8) : Bool := decide (97 ≤ b.toNat) && decide (b.toNat ≤ 122)
def dg (b : UInt8) : Bool := decide (48 ≤ b.toNat) && decide (b.toNat ≤ 57)
def rst (b : UInt8) : Bool := sm b || dg b || decide (b = 95)
def ltr (b : UInt8) : Bool := rst b || (decide (65 ≤ b.toNat) && decide (b.toNat ≤ 90))
def spc (b : UInt8) : Bool := decide (b = 32) || decide (b = 9) || decide (b = 10) || decide (b = 13)
/-- behind spaces and comments (true: in a comment) -/
def skipP : Bool → List UInt8 → List UInt8
  | _, [] => []
  | true, b :: r => if b = 10 then skipP false r else skipP true r
  | false, b :: r => if b = 35 then skipP true r else if spc b then skipP false r else b :: r
/-- the rest of a text -/
def txtP : List UInt8 → List UInt8 → Sum Int (Int × List UInt8 × List UInt8)
  | _, [] => .inl 182
  | out, b :: r =>
    if b = 34 then (if 200 < out.length then .inl 182 else .inr (4, out, r))
    else if b = 92 then (match r with
      | [] => .inl 182
      | c :: r' => if c = 34 ∨ c = 92 then txtP (out ++ [c]) r' else .inl 182)
    else if b.toNat < 32 ∨ 126 < b.toNat then .inl 182 else txtP (out ++ [b]) r
def longs : List (List UInt8) := [[61, 61], [33, 61], [60, 61], [62, 61], [46, 46]]
def shorts : List UInt8 := [123, 125, 40, 41, 91, 93, 44, 59, 58, 61, 60, 62, 43, 45, 42, 47, 37]
def sgnP : List UInt8 → Sum Int (Int × List UInt8 × List UInt8)
  | [] => .inl 180
  | [b] => if b ∈ shorts then .inr (5, [b], []) else .inl 180
  | b :: c :: r => if [b, c] ∈ longs then .inr (5, [b, c], r) else if b ∈ shorts then .inr (5, [b], c :: r) else .inl 180
def badNum (w r : List UInt8) : Bool := decide (18 < w.length) || (decide (w.head? = some 48) && decide (1 < w.length)) || (match r with | [] => false | c :: _ => ltr c)
def numP (s : List UInt8) : Sum Int (Int × List UInt8 × List UInt8) :=
  if badNum (s.takeWhile dg) (s.dropWhile dg) then .inl 181 else .inr (3, s.takeWhile dg, s.dropWhile dg)
def namP (kw : List (List UInt8)) (s : List UInt8) : Sum Int (Int × List UInt8 × List UInt8) :=
  if s.takeWhile rst ∈ kw then .inr (2, s.takeWhile rst, s.dropWhile rst) else if 40 < (s.takeWhile rst).length then .inl 2 else .inr (1, s.takeWhile rst, s.dropWhile rst)
/-- the token at the beginning: an error, or its kind, its text, and what follows -/
def nextP (kw : List (List UInt8)) : List UInt8 → Sum Int (Int × List UInt8 × List UInt8)
  | [] => .inl 180
  | b :: r => if sm b then namP kw (b :: r) else if dg b then numP (b :: r) else if b = 34 then txtP [] r else sgnP (b :: r)
/-- the tokens (kind, what is left from there on, text) and the problem (what is left, error) -/
def toksP (kw : List (List UInt8)) : Nat → List UInt8 → List (Int × Nat × List UInt8) × Option (Nat × Int)
  | 0, _ => ([], none)
  | f + 1, s => match skipP false s with
    | [] => ([], none)
    | b :: r => match nextP kw (b :: r) with
      | .inl e => ([], some (r.length + 1, e))
      | .inr (k, w, rest) => ((k, r.length + 1, w) :: (toksP kw f rest).1, (toksP kw f rest).2)

theorem toks_nil {kw : List (List UInt8)} {s : List UInt8} (h : skipP false s = []) (f : Nat) : toksP kw f s = ([], none) := by
  cases f with
  | zero => rfl
  | succ f => show (match skipP false s with | [] => _ | b :: r => _) = _; rw [h]
theorem toks_inl {kw : List (List UInt8)} {s r : List UInt8} {b : UInt8} {e : Int} (h : skipP false s = b :: r) (hn : nextP kw (b :: r) = .inl e) (f : Nat) : toksP kw (f + 1) s = ([], some (r.length + 1, e)) := by
  show (match skipP false s with | [] => _ | b :: r => _) = _
  rw [h]
  show (match nextP kw (b :: r) with | .inl e => _ | .inr (k, w, rest) => _) = _
  rw [hn]
theorem toks_inr {kw : List (List UInt8)} {s r w rest : List UInt8} {b : UInt8} {k : Int} (h : skipP false s = b :: r) (hn : nextP kw (b :: r) = .inr (k, w, rest)) (f : Nat) :
    toksP kw (f + 1) s = ((k, r.length + 1, w) :: (toksP kw f rest).1, (toksP kw f rest).2) := by
  show (match skipP false s with | [] => _ | b :: r => _) = _
  rw [h]
  show (match nextP kw (b :: r) with | .inl e => _ | .inr (k, w, rest) => _) = _
  rw [hn]
theorem next_cons (kw : List (List UInt8)) (b : UInt8) (r : List UInt8) : nextP kw (b :: r) = if sm b then namP kw (b :: r) else if dg b then numP (b :: r) else if b = 34 then txtP [] r else sgnP (b :: r) := rfl
theorem sgn_one (b : UInt8) : sgnP [b] = if b ∈ shorts then .inr (5, [b], []) else .inl 180 := rfl
theorem sgn_two (b c : UInt8) (r : List UInt8) : sgnP (b :: c :: r) = if [b, c] ∈ longs then .inr (5, [b, c], r) else if b ∈ shorts then .inr (5, [b], c :: r) else .inl 180 := rfl
theorem txt_nil (out : List UInt8) : txtP out [] = .inl 182 := by rw [txtP.eq_def]
theorem txt_cons (out : List UInt8) (b : UInt8) (r : List UInt8) : txtP out (b :: r) = if b = 34 then (if 200 < out.length then .inl 182 else .inr (4, out, r))
    else if b = 92 then (match r with
      | [] => .inl 182
      | c :: r' => if c = 34 ∨ c = 92 then txtP (out ++ [c]) r' else .inl 182)
    else if b.toNat < 32 ∨ 126 < b.toNat then .inl 182 else txtP (out ++ [b]) r := by rw [txtP.eq_def]
theorem skip_t (b : UInt8) (r : List UInt8) : skipP true (b :: r) = if b = 10 then skipP false r else skipP true r := rfl
theorem skip_f (b : UInt8) (r : List UInt8) : skipP false (b :: r) = if b = 35 then skipP true r else if spc b then skipP false r else b :: r := rfl
theorem skip_len : ∀ (c : Bool) (s : List UInt8), (skipP c s).length ≤ s.length
  | c, [] => by cases c <;> simp [skipP]
  | true, b :: r => by
    have h1 := skip_len true r; have h2 := skip_len false r
    unfold skipP; split <;> simp <;> omega
  | false, b :: r => by
    have h1 := skip_len true r; have h2 := skip_len false r
    unfold skipP; split
    · simp; omega
    · split <;> simp; omega
theorem skip_suf : ∀ (c : Bool) (s : List UInt8), ∃ p, s = p ++ skipP c s
  | c, [] => ⟨[], by cases c <;> simp [skipP]⟩
  | true, b :: r => by
    obtain ⟨p1, h1⟩ := skip_suf true r; obtain ⟨p2, h2⟩ := skip_suf false r
    unfold skipP; split
    · exact ⟨b :: p2, by simpa using h2⟩
    · exact ⟨b :: p1, by simpa using h1⟩
  | false, b :: r => by
    obtain ⟨p1, h1⟩ := skip_suf true r; obtain ⟨p2, h2⟩ := skip_suf false r
    unfold skipP; split
    · exact ⟨b :: p1, by simpa using h1⟩
    · split
      · exact ⟨b :: p2, by simpa using h2⟩
      · exact ⟨[], rfl⟩
theorem txt_len : ∀ (n : Nat) (s out : List UInt8) (k : Int) (w r : List UInt8), s.length ≤ n → txtP out s = .inr (k, w, r) → r.length < s.length := by
  intro n
  induction n with
  | zero =>
    intro s out k w r hn h
    match s, hn with
    | [], _ => rw [txt_nil] at h; cases h
  | succ n ih =>
    intro s out k w r hn h
    match s, hn with
    | [], _ => rw [txt_nil] at h; cases h
    | b :: t, hn =>
      rw [txt_cons] at h
      split at h
      · split at h
        · cases h
        · cases h; simp
      · split at h
        · match t, hn, h with
          | [], _, h => cases h
          | c :: t', hn, h =>
            simp only at h
            split at h
            · have := ih t' _ _ _ _ (by simp at hn; omega) h
              simp; omega
            · cases h
        · split at h
          · cases h
          · have := ih t _ _ _ _ (by simp at hn; omega) h
            simp; omega
theorem drop_len {p : UInt8 → Bool} (s : List UInt8) : (s.dropWhile p).length ≤ s.length := List.Sublist.length_le (List.dropWhile_sublist _)
theorem next_len {kw : List (List UInt8)} {s : List UInt8} {k : Int} {w r : List UInt8} (h : nextP kw s = .inr (k, w, r)) : r.length < s.length := by
  match s, h with
  | b :: t, h =>
    rw [next_cons] at h
    split at h
    · rename_i hb
      have hr : rst b = true := by unfold rst; rw [hb]; rfl
      have := drop_len (p := rst) t
      unfold namP at h
      rw [List.dropWhile_cons_of_pos hr] at h
      split at h
      · cases h; simp; omega
      · split at h
        · cases h
        · cases h; simp; omega
    · split at h
      · rename_i hb
        have := drop_len (p := dg) t
        unfold numP at h
        rw [List.dropWhile_cons_of_pos hb] at h
        split at h
        · cases h
        · cases h; simp; omega
      · split at h
        · have := txt_len _ _ _ _ _ _ (Nat.le_refl _) h
          simp; omega
        · match t, h with
          | [], h =>
            rw [sgn_one] at h
            split at h
            · cases h; simp
            · cases h
          | c :: t', h =>
            rw [sgn_two] at h
            split at h
            · cases h; simp; omega
            · split at h
              · cases h; simp
              · cases h
theorem txt_suf : ∀ (n : Nat) (s out : List UInt8) (k : Int) (w r : List UInt8), s.length ≤ n → txtP out s = .inr (k, w, r) → r <:+ s := by
  intro n
  induction n with
  | zero =>
    intro s out k w r hn h
    match s, hn with
    | [], _ => rw [txt_nil] at h; cases h
  | succ n ih =>
    intro s out k w r hn h
    match s, hn with
    | [], _ => rw [txt_nil] at h; cases h
    | b :: t, hn =>
      rw [txt_cons] at h
      split at h
      · split at h
        · cases h
        · cases h; exact List.suffix_cons _ _
      · split at h
        · match t, hn, h with
          | [], _, h => cases h
          | c :: t', hn, h =>
            simp only at h
            split at h
            · exact ((ih t' _ _ _ _ (by simp at hn; omega) h).trans (List.suffix_cons _ _)).trans (List.suffix_cons _ _)
            · cases h
        · split at h
          · cases h
          · exact (ih t _ _ _ _ (by simp at hn; omega) h).trans (List.suffix_cons _ _)
theorem next_suf {kw : List (List UInt8)} {s : List UInt8} {k : Int} {w r : List UInt8} (h : nextP kw s = .inr (k, w, r)) : r <:+ s := by
  match s, h with
  | b :: t, h =>
    rw [next_cons] at h
    split at h
    · unfold namP at h
      split at h
      · cases h; exact List.dropWhile_suffix _
      · split at h
        · cases h
        · cases h; exact List.dropWhile_suffix _
    · split at h
      · unfold numP at h
        split at h
        · cases h
        · cases h; exact List.dropWhile_suffix _
      · split at h
        · exact (txt_suf _ _ _ _ _ _ (Nat.le_refl _) h).trans (List.suffix_cons _ _)
        · match t, h with
          | [], h =>
            rw [sgn_one] at h
            split at h
            · cases h; exact List.suffix_cons _ _
            · cases h
          | c :: t', h =>
            rw [sgn_two] at h
            split at h
            · cases h; exact (List.suffix_cons _ _).trans (List.suffix_cons _ _)
            · split at h
              · cases h; exact List.suffix_cons _ _
              · cases h
theorem skip_head : ∀ (c : Bool) (s : List UInt8) (b : UInt8) (r : List UInt8), skipP c s = b :: r → b ≠ 35 ∧ spc b = false
  | true, [], b, r, h => by simp [skipP] at h
  | false, [], b, r, h => by simp [skipP] at h
  | true, c :: s, b, r, h => by
    rw [skip_t] at h
    split at h
    · exact skip_head false s b r h
    · exact skip_head true s b r h
  | false, c :: s, b, r, h => by
    rw [skip_f] at h
    split at h
    · exact skip_head true s b r h
    · split at h
      · exact skip_head false s b r h
      · cases h
        rename_i h1 h2
        exact ⟨h1, by simpa using h2⟩
theorem skip_idem (c : Bool) (s : List UInt8) : skipP false (skipP c s) = skipP c s := by
  cases h : skipP c s with
  | nil => rfl
  | cons b r =>
    obtain ⟨h1, h2⟩ := skip_head c s b r h
    rw [skip_f, if_neg h1, h2]
    rfl
theorem toks_skip (kw : List (List UInt8)) (f : Nat) (s : List UInt8) : toksP kw f (skipP false s) = toksP kw f s := by
  cases hs : skipP false s with
  | nil => rw [toks_nil hs, toks_nil rfl]
  | cons b r =>
    have h2 : skipP false (b :: r) = b :: r := by rw [← hs, skip_idem]
    cases f with
    | zero => rfl
    | succ f =>
      cases hn : nextP kw (b :: r) with
      | inl e => rw [toks_inl hs hn, toks_inl h2 hn]
      | inr q => obtain ⟨k, w, rest⟩ := q; rw [toks_inr hs hn, toks_inr h2 hn]
theorem skip_suffix (c : Bool) (s : List UInt8) : skipP c s <:+ s := by
  obtain ⟨p, h⟩ := skip_suf c s
  exact ⟨p, h.symm⟩
theorem suf_drop {r s : List UInt8} (h : r <:+ s) : s.drop (s.length - r.length) = r := (List.suffix_iff_eq_drop.1 h).symm
/-- enough fuel is enough -/
theorem toks_fuel (kw : List (List UInt8)) : ∀ (f g : Nat) (s : List UInt8), s.length < f → s.length < g → toksP kw f s = toksP kw g s
  | 0, _, _, h, _ => by omega
  | _, 0, _, _, h => by omega
  | f + 1, g + 1, s, h1, h2 => by
    have hl := skip_len false s
    cases hs : skipP false s with
    | nil => rw [toks_nil hs, toks_nil hs]
    | cons b r =>
      rw [hs] at hl
      cases hn : nextP kw (b :: r) with
      | inl e => rw [toks_inl hs hn, toks_inl hs hn]
      | inr q =>
        obtain ⟨k, w, rest⟩ := q
        have := next_len hn
        rw [toks_inr hs hn, toks_inr hs hn, toks_fuel kw f g rest (by simp at hl this; omega) (by simp at hl this; omega)]
theorem txt_err : ∀ (n : Nat) (s out : List UInt8) (e : Int), s.length ≤ n → txtP out s = .inl e → e = 182 := by
  intro n
  induction n with
  | zero =>
    intro s out e hn h
    match s, hn with
    | [], _ => rw [txt_nil] at h; cases h; rfl
  | succ n ih =>
    intro s out e hn h
    match s, hn with
    | [], _ => rw [txt_nil] at h; cases h; rfl
    | b :: t, hn =>
      rw [txt_cons] at h
      split at h
      · split at h
        · cases h; rfl
        · cases h
      · split at h
        · match t, hn, h with
          | [], _, h => cases h; rfl
          | c :: t', hn, h =>
            simp only at h
            split at h
            · exact ih t' _ _ (by simp at hn; omega) h
            · cases h; rfl
        · split at h
          · cases h; rfl
          · exact ih t _ _ (by simp at hn; omega) h
theorem next_err {kw : List (List UInt8)} {s : List UInt8} {e : Int} (h : nextP kw s = .inl e) : e ≠ 0 := by
  match s, h with
  | [], h => cases h; decide
  | b :: t, h =>
    rw [next_cons] at h
    split at h
    · unfold namP at h
      split at h
      · cases h
      · split at h
        · cases h; decide
        · cases h
    · split at h
      · unfold numP at h
        split at h
        · cases h; decide
        · cases h
      · split at h
        · rw [txt_err _ _ _ _ (Nat.le_refl _) h]; decide
        · match t, h with
          | [], h =>
            rw [sgn_one] at h
            split at h
            · cases h
            · cases h; decide
          | c :: t', h =>
            rw [sgn_two] at h
            split at h
            · cases h
            · split at h
              · cases h
              · cases h; decide
/-! a line feed parts two sources -/
def andThen (y : List UInt8) : Sum Int (Int × List UInt8 × List UInt8) → Sum Int (Int × List UInt8 × List UInt8)
  | .inl e => .inl e
  | .inr (k, w, r) => .inr (k, w, r ++ y)
end Go.Lex
namespace Go.Proofs.YtgibkdldfnlglaaGreatDoor
open Go.Abs Go.Lex
set_option linter.unusedSimpArgs false
set_option linter.unusedVariables false
theorem idx_get'' {α β : Type} {l : List α} {i : Nat} (h : i < l.length) (k : α → Option β) : idx l (i : Int) k = k l[i] := by
  rw [idx_get (List.getElem?_eq_getElem h)]
theorem tw_take (p : UInt8 → Bool) : ∀ l : List UInt8, l.take (l.takeWhile p).length = l.takeWhile p ∧ l.drop (l.takeWhile p).length = l.dropWhile p
  | [] => ⟨rfl, rfl⟩
  | b :: r => by
    obtain ⟨h1, h2⟩ := tw_take p r
    cases hb : p b with
    | true => simp [List.takeWhile_cons_of_pos hb, List.dropWhile_cons_of_pos hb, h1, h2]
    | false => have hb' : ¬ p b = true := by simp [hb]
               simp [List.takeWhile_cons_of_neg hb', List.dropWhile_cons_of_neg hb']
theorem tw_le (p : UInt8 → Bool) (l : List UInt8) : (l.takeWhile p).length ≤ l.length := List.Sublist.length_le (List.takeWhile_sublist _)
theorem drop_cons {s : List UInt8} {i : Nat} (h : i < s.length) : s.drop i = s[i] :: s.drop (i + 1) := List.drop_eq_getElem_cons h
/-- a run of bytes of one kind -/
theorem while_gen {R : Type} (p : UInt8 → Bool) (s : List UInt8) (hs : s.length ≤ 1000000) (step : Int → Option (Lp Int (Lp Int R)))
    (h1 : ∀ i (h : i < s.length), step (i : Int) = if p s[i] then some (.go ((i + 1 : Nat) : Int)) else some (.stop (.go (i : Int)))) (h2 : step (s.length : Int) = some (.stop (.go (s.length : Int))))
    (a : Nat) (ha : a ≤ s.length) (n : Nat) (hn : s.length < n) : iter step n (a : Int) = some (.go ((a + ((s.drop a).takeWhile p).length : Nat) : Int)) := by
  obtain ⟨r, e, rfl⟩ := iter_inv (step := step) (fun x => ∃ i : Nat, x = (i : Int) ∧ i ≤ s.length ∧ i + ((s.drop i).takeWhile p).length = a + ((s.drop a).takeWhile p).length) (fun x => s.length - x.toNat) (fun r => r = .go ((a + ((s.drop a).takeWhile p).length : Nat) : Int)) (by
    rintro x ⟨i, rfl, hi, hk⟩
    by_cases hlt : i < s.length
    · rw [h1 i hlt]
      rw [drop_cons hlt] at hk
      cases hp : p s[i] with
      | true =>
        rw [List.takeWhile_cons_of_pos hp] at hk
        refine .inl ⟨_, rfl, ⟨i + 1, rfl, by omega, ?_⟩, by simp; omega⟩
        rw [← hk]; simp; omega
      | false =>
        have hp' : ¬ p s[i] = true := by simp [hp]
        rw [List.takeWhile_cons_of_neg hp'] at hk
        simp only [Bool.false_eq_true, if_false]
        refine .inr ⟨_, rfl, ?_⟩
        rw [← hk]; simp
    · obtain rfl : i = s.length := by omega
      rw [h2]
      refine .inr ⟨_, rfl, ?_⟩
      rw [← hk]; simp) n a ⟨a, rfl, ha, rfl⟩ (by simp; omega)
  exact e
theorem small_eq (b : UInt8) : lexer_isSmall (b.toNat : Int) = some (sm b) := by
  unfold lexer_isSmall sm
  congr 1
  rw [Bool.eq_iff_iff]; simp only [Bool.and_eq_true, decide_eq_true_eq]; omega
theorem digit_eq (b : UInt8) : lexer_isDigit (b.toNat : Int) = some (dg b) := by
  unfold lexer_isDigit dg
  congr 1
  rw [Bool.eq_iff_iff]; simp only [Bool.and_eq_true, decide_eq_true_eq]; omega
theorem byte_eq (b c : UInt8) (k : Int) (h : (c.toNat : Int) = k) : decide ((b.toNat : Int) = k) = decide (b = c) := by
  subst h
  rw [decide_eq_decide]
  constructor
  · intro h; exact UInt8.toNat_inj.1 (by omega)
  · intro h; rw [h]
theorem rest_eq (b : UInt8) : lexer_isRest (b.toNat : Int) = some (rst b) := by
  unfold lexer_isRest
  rw [small_eq, digit_eq]
  simp only [obind, Option.bind_some]
  rw [byte_eq b 95 95 rfl]
  unfold rst
  cases sm b <;> simp [bindJ_go]
theorem spc_eq (b : UInt8) : weirgate_lexer_reader_space_1_50 (b.toNat : Int) = some (spc b) := by
  unfold weirgate_lexer_reader_space_1_50 spc
  rw [byte_eq b 32 32 rfl, byte_eq b 9 9 rfl, byte_eq b 10 10 rfl, byte_eq b 13 13 rfl]
theorem nl_eq (b : UInt8) : weirgate_lexer_reader_space_2_51 (b.toNat : Int) = some (!decide (b = 10)) := by
  unfold weirgate_lexer_reader_space_2_51
  rw [← byte_eq b 10 10 rfl]
  simp
/-- what such a run is, and where it ends -/
theorem while_fin {s : List UInt8} {p : UInt8 → Bool} {a : Nat} (ha : a ≤ s.length) :
    (s.take (a + ((s.drop a).takeWhile p).length)).drop a = (s.drop a).takeWhile p ∧ s.drop (a + ((s.drop a).takeWhile p).length) = (s.drop a).dropWhile p ∧ a + ((s.drop a).takeWhile p).length ≤ s.length := by
  obtain ⟨h1, h2⟩ := tw_take p (s.drop a)
  have h3 := tw_le p (s.drop a)
  rw [List.length_drop] at h3
  refine ⟨?_, ?_, by omega⟩
  · rw [List.drop_take, Nat.add_sub_cancel_left, h1]
  · rw [← List.drop_drop, h2]
theorem while0 (s : List UInt8) (hs : s.length ≤ 1000000) (a : Nat) (ha : a ≤ s.length) (n : Nat) (hn : s.length < n) :
    weirgate_lexer_reader_while_49 n ⟨s, a⟩ = some ((s.drop a).takeWhile spc, ⟨s, ((a + ((s.drop a).takeWhile spc).length : Nat) : Int)⟩) := by
  unfold weirgate_lexer_reader_while_49
  simp only
  rw [while_gen spc s hs _ (fun i h => by
    unfold weirgate_lexer_reader_while_49_L1
    simp only
    rw [decide_eq_true (by omega), cond_true, idx_get'' h, spc_eq]
    simp only [obind, Option.bind_some, bindJ_go]
    rw [w64 (by omega) (by omega)]
    cases spc s[i] <;> rfl) (by
    unfold weirgate_lexer_reader_while_49_L1
    simp only
    rw [decide_eq_false (by omega), cond_false, bindJ_go, cond_false]) a ha n hn, bindJ_go]
  obtain ⟨h1, h2, h3⟩ := while_fin (s := s) (p := spc) ha
  rw [need_pos (by omega), Int.toNat_natCast, Int.toNat_natCast, h1]
theorem while1 (s : List UInt8) (hs : s.length ≤ 1000000) (a : Nat) (ha : a ≤ s.length) (n : Nat) (hn : s.length < n) :
    weirgate_lexer_reader_while_49_v1 n ⟨s, a⟩ = some ((s.drop a).takeWhile (fun b => !decide (b = 10)), ⟨s, ((a + ((s.drop a).takeWhile (fun b => !decide (b = 10))).length : Nat) : Int)⟩) := by
  unfold weirgate_lexer_reader_while_49_v1
  simp only
  rw [while_gen (fun b => !decide (b = 10)) s hs _ (fun i h => by
    unfold weirgate_lexer_reader_while_49_v1_L1
    simp only
    rw [decide_eq_true (by omega), cond_true, idx_get'' h, nl_eq]
    simp only [obind, Option.bind_some, bindJ_go]
    rw [w64 (by omega) (by omega)]
    cases decide (s[i] = 10) <;> rfl) (by
    unfold weirgate_lexer_reader_while_49_v1_L1
    simp only
    rw [decide_eq_false (by omega), cond_false, bindJ_go, cond_false]) a ha n hn, bindJ_go]
  obtain ⟨h1, h2, h3⟩ := while_fin (s := s) (p := fun b => !decide (b = 10)) ha
  rw [need_pos (by omega), Int.toNat_natCast, Int.toNat_natCast, h1]
theorem while2 (s : List UInt8) (hs : s.length ≤ 1000000) (a : Nat) (ha : a ≤ s.length) (n : Nat) (hn : s.length < n) :
    weirgate_lexer_reader_while_49_v2 n ⟨s, a⟩ = some ((s.drop a).takeWhile rst, ⟨s, ((a + ((s.drop a).takeWhile rst).length : Nat) : Int)⟩) := by
  unfold weirgate_lexer_reader_while_49_v2
  simp only
  rw [while_gen rst s hs _ (fun i h => by
    unfold weirgate_lexer_reader_while_49_v2_L1
    simp only
    rw [decide_eq_true (by omega), cond_true, idx_get'' h, rest_eq]
    simp only [obind, Option.bind_some, bindJ_go]
    rw [w64 (by omega) (by omega)]
    cases rst s[i] <;> rfl) (by
    unfold weirgate_lexer_reader_while_49_v2_L1
    simp only
    rw [decide_eq_false (by omega), cond_false, bindJ_go, cond_false]) a ha n hn, bindJ_go]
  obtain ⟨h1, h2, h3⟩ := while_fin (s := s) (p := rst) ha
  rw [need_pos (by omega), Int.toNat_natCast, Int.toNat_natCast, h1]
theorem while3 (s : List UInt8) (hs : s.length ≤ 1000000) (a : Nat) (ha : a ≤ s.length) (n : Nat) (hn : s.length < n) :
    weirgate_lexer_reader_while_49_v3 n ⟨s, a⟩ = some ((s.drop a).takeWhile dg, ⟨s, ((a + ((s.drop a).takeWhile dg).length : Nat) : Int)⟩) := by
  unfold weirgate_lexer_reader_while_49_v3
  simp only
  rw [while_gen dg s hs _ (fun i h => by
    unfold weirgate_lexer_reader_while_49_v3_L1
    simp only
    rw [decide_eq_true (by omega), cond_true, idx_get'' h, digit_eq]
    simp only [obind, Option.bind_some, bindJ_go]
    rw [w64 (by omega) (by omega)]
    cases dg s[i] <;> rfl) (by
    unfold weirgate_lexer_reader_while_49_v3_L1
    simp only
    rw [decide_eq_false (by omega), cond_false, bindJ_go, cond_false]) a ha n hn, bindJ_go]
  obtain ⟨h1, h2, h3⟩ := while_fin (s := s) (p := dg) ha
  rw [need_pos (by omega), Int.toNat_natCast, Int.toNat_natCast, h1]
/-! spaces -/
theorem skip_spc : ∀ l : List UInt8, skipP false l = skipP false (l.dropWhile spc)
  | [] => rfl
  | b :: r => by
    cases hb : spc b with
    | true =>
      rw [List.dropWhile_cons_of_pos hb, skip_f, if_neg (by rintro rfl; simp [spc] at hb), if_pos hb]
      exact skip_spc r
    | false => rw [List.dropWhile_cons_of_neg (by simp [hb])]
theorem skip_cmt : ∀ l : List UInt8, skipP true l = skipP false (l.dropWhile fun b => !decide (b = 10))
  | [] => rfl
  | b :: r => by
    rw [skip_t]
    by_cases hb : b = 10
    · subst hb
      rw [if_pos rfl, List.dropWhile_cons_of_neg (by simp), skip_f, if_neg (by decide), if_pos (by decide)]
    · rw [if_neg hb, List.dropWhile_cons_of_pos (by simp [hb])]
      exact skip_cmt r
theorem dw_head {p : UInt8 → Bool} : ∀ (l : List UInt8) (b : UInt8) (r : List UInt8), l.dropWhile p = b :: r → p b = false
  | [], b, r, h => by simp at h
  | c :: l, b, r, h => by
    cases hc : p c with
    | true => rw [List.dropWhile_cons_of_pos hc] at h; exact dw_head l b r h
    | false => rw [List.dropWhile_cons_of_neg (by simp [hc])] at h; cases h; exact hc
theorem space_eq (s : List UInt8) (hs : s.length ≤ 1000000) (a : Nat) (ha : a ≤ s.length) (n : Nat) (hn : s.length + 1 < n) :
    weirgate_lexer_reader_space_28 n ⟨s, a⟩ = some ⟨s, ((s.length - (skipP false (s.drop a)).length : Nat) : Int)⟩ := by
  unfold weirgate_lexer_reader_space_28
  simp only
  obtain ⟨r, e, rfl⟩ := iter_inv (step := weirgate_lexer_reader_space_28_L1 n) (fun x => ∃ i : Nat, x = (s, (i : Int)) ∧ i ≤ s.length ∧ skipP false (s.drop i) = skipP false (s.drop a)) (fun x => s.length - x.2.toNat) (fun r => r = ⟨s, ((s.length - (skipP false (s.drop a)).length : Nat) : Int)⟩) (by
    rintro x ⟨i, rfl, hi, hk⟩
    unfold weirgate_lexer_reader_space_28_L1
    simp only
    rw [while0 s hs i hi n (by omega)]
    simp only [obind, Option.bind_some]
    obtain ⟨h1, h2, h3⟩ := while_fin (s := s) (p := spc) hi
    rw [skip_spc (s.drop i), ← h2] at hk
    have hd := h2
    have hij : i ≤ i + ((s.drop i).takeWhile spc).length := by omega
    generalize i + ((s.drop i).takeWhile spc).length = j at h1 h2 h3 hk hd hij ⊢
    by_cases hj : j = s.length
    · subst hj
      rw [decide_eq_true (by rfl), cond_true, bindJ_go, cond_true]
      refine .inr ⟨_, rfl, ?_⟩
      rw [← hk, List.drop_length]
      rfl
    · have hjl : j < s.length := by omega
      rw [decide_eq_false (by omega), cond_false, idx_get'' hjl, bindJ_go]
      have hc := drop_cons hjl
      rw [show decide ((s[j].toNat : Int) ≠ 35) = !decide (s[j] = 35) by rw [← byte_eq s[j] 35 35 rfl]; simp]
      have hsp : spc s[j] = false := dw_head _ _ _ (hd.symm.trans hc)
      by_cases h35 : s[j] = 35
      · simp only [h35, decide_true, Bool.not_true, cond_false]
        rw [while1 s hs j h3 n (by omega)]
        simp only [Option.bind_some]
        obtain ⟨g1, g2, g3⟩ := while_fin (s := s) (p := fun b => !decide (b = 10)) h3
        have hpos : 0 < ((s.drop j).takeWhile fun b => !decide (b = 10)).length := by
          rw [hc, List.takeWhile_cons_of_pos (by simp [h35])]; simp
        refine .inl ⟨_, rfl, ⟨_, rfl, g3, ?_⟩, by simp only; omega⟩
        rw [g2, ← hk, hc, List.dropWhile_cons_of_pos (by simp [h35]), skip_f, if_pos h35, skip_cmt]
      · simp only [h35, decide_false, Bool.not_false, cond_true]
        refine .inr ⟨_, rfl, ?_⟩
        rw [← hk, hc, skip_f, if_neg h35, hsp]
        simp only [Bool.false_eq_true, if_false, S_lexer_reader.mk.injEq, true_and, List.length_cons, List.length_drop]
        omega) n (s, (a : Int)) ⟨a, rfl, ha, rfl⟩ (by simp; omega)
  exact e
end Go.Proofs.YtgibkdldfnlglaaGreatDoor
namespace Go.Proofs.YtgibkdldfnlglaaGreatDoor
open Go.Abs Go.Lex
set_option linter.unusedSimpArgs false
set_option linter.unusedVariables false
def kwP : List (List UInt8) := [[97, 108, 108, 111, 119], [97, 110, 100], [99, 108, 105, 101, 110, 116, 115], [99, 111, 115, 116], [99, 111, 117, 110, 116, 114, 105, 101, 115], [100, 101, 102, 97, 117, 108, 116], [100, 101, 110, 121], [100, 111, 119, 110], [101, 102, 102, 101, 99, 116, 115], [101, 108, 115, 101], [102, 97, 108, 115, 101], [102, 114, 101, 115, 104], [102, 114, 111, 109], [104, 101, 97, 100, 101, 114], [105, 102], [105, 110], [108, 101, 116], [108, 111, 103], [110, 101, 103, 97, 116, 105, 118, 101], [110, 111, 116], [111, 114], [112, 97, 116, 116, 101, 114, 110], [112, 111, 108, 105, 99, 121], [112, 114, 111, 103, 114, 97, 109], [114, 101, 97, 100, 115], [114, 101, 112, 101, 97, 116], [114, 101, 112, 108, 121], [114, 117, 108, 101], [115, 101, 116], [115, 105, 103, 110, 101, 100], [115, 105, 116, 101, 115], [115, 116, 97, 108, 101], [115, 116, 97, 116, 117, 115], [116, 97, 103, 115], [116, 111], [116, 114, 117, 101], [117, 115, 101, 115], [118, 97, 114, 121], [119, 114, 105, 116, 101, 115]]
theorem words_eq : lexer_Words = some kwP := by
  unfold lexer_Words fieldsH
  rw [need_pos (by decide +kernel)]
  simp only [obind, Option.bind_some, Option.some.injEq]
  decide +kernel
theorem index_eq (l : List (List UInt8)) (hl : l.length ≤ 1000000) (v : List UInt8) (n : Nat) (hn : l.length < n) : ∃ r, slices_Index_string_string_64 n l v = some r ∧ ((0 ≤ r ∧ v ∈ l) ∨ (r = -1 ∧ v ∉ l)) := by
  unfold slices_Index_string_string_64
  obtain ⟨r, e, h⟩ := iter_inv (step := slices_Index_string_string_64_L1 l v) (fun x => ∃ i : Nat, x = (i : Int) ∧ i ≤ l.length ∧ ∀ j (h : j < l.length), j < i → l[j] ≠ v) (fun x => l.length - x.toNat)
    (fun r => (r = .go () ∧ v ∉ l) ∨ ∃ i : Int, r = .stop i ∧ 0 ≤ i ∧ v ∈ l) (by
    rintro x ⟨i, rfl, hi, hj⟩
    unfold slices_Index_string_string_64_L1
    by_cases hlt : i < l.length
    · rw [decide_eq_true (by omega), cond_true, idx_get'' hlt]
      by_cases hv : v = l[i]
      · rw [decide_eq_true hv, cond_true]
        exact .inr ⟨_, rfl, .inr ⟨_, rfl, by omega, hv ▸ List.getElem_mem hlt⟩⟩
      · rw [decide_eq_false hv, cond_false, w64 (by omega) (by omega)]
        refine .inl ⟨((i + 1 : Nat) : Int), rfl, ⟨i + 1, rfl, by omega, fun j a b => ?_⟩, by simp; omega⟩
        by_cases e : j = i
        · subst e; exact fun q => hv q.symm
        · exact hj j a (by omega)
    · rw [decide_eq_false (by omega), cond_false]
      refine .inr ⟨_, rfl, .inl ⟨rfl, fun hv => ?_⟩⟩
      obtain ⟨j, a, e⟩ := List.getElem_of_mem hv
      exact hj j a (by omega) e) n 0 ⟨0, rfl, by omega, fun j a b => by omega⟩ (by simp; omega)
  rw [e]
  rcases h with ⟨rfl, h⟩ | ⟨i, rfl, h0, h⟩
  · exact ⟨-1, rfl, .inr ⟨rfl, h⟩⟩
  · exact ⟨i, rfl, .inl ⟨h0, h⟩⟩
theorem contains_eq (l : List (List UInt8)) (hl : l.length ≤ 1000000) (v : List UInt8) (n : Nat) (hn : l.length < n) : slices_Contains_string_string_34 n l v = some (decide (v ∈ l)) := by
  unfold slices_Contains_string_string_34
  obtain ⟨r, e, h⟩ := index_eq l hl v n hn
  rw [e]
  simp only [obind, Option.bind_some, Option.some.injEq]
  rw [decide_eq_decide]
  rcases h with ⟨h0, h⟩ | ⟨rfl, h⟩
  · exact ⟨fun _ => h, fun _ => h0⟩
  · exact ⟨fun q => by omega, fun q => absurd q h⟩
theorem word_eq (v : List UInt8) (n : Nat) (hn : 100 < n) : lexer_Word n v = some (decide (v ∈ kwP)) := by
  unfold lexer_Word
  rw [words_eq]
  simp only [obind, Option.bind_some]
  rw [contains_eq kwP (by decide +kernel) v n (by have h : kwP.length = 39 := (by decide +kernel); omega)]
  rfl
/-- a token read, or the panic -/
def resP (s : List UInt8) : Sum Int (Int × List UInt8 × List UInt8) → Pn (S_api_Lexeme × S_lexer_reader)
  | .inl e => .pan e
  | .inr (k, w, r) => .ret (⟨k, 0, w⟩, ⟨s, ((s.length - r.length : Nat) : Int)⟩)
theorem fail_eq (b : Bool) (e : Int) : lexer_fail b e = some (if b then .pan e else .ret ()) := by cases b <;> rfl
theorem name_eq (s : List UInt8) (hs : s.length ≤ 1000000) (a : Nat) (ha : a ≤ s.length) (n : Nat) (hn : s.length + 100 < n) :
    weirgate_lexer_reader_name_42 n ⟨s, a⟩ = some (resP s (namP kwP (s.drop a))) := by
  unfold weirgate_lexer_reader_name_42 namP
  rw [while2 s hs a ha n (by omega)]
  simp only [obind, Option.bind_some]
  rw [word_eq _ n (by omega)]
  simp only [Option.bind_some]
  obtain ⟨h1, h2, h3⟩ := while_fin (s := s) (p := rst) ha
  have hl := congrArg List.length h2
  rw [List.length_drop] at hl
  have hat : ((a + ((s.drop a).takeWhile rst).length : Nat) : Int) = ((s.length - ((s.drop a).dropWhile rst).length : Nat) : Int) := by omega
  by_cases hw : (s.drop a).takeWhile rst ∈ kwP
  · rw [decide_eq_true hw, cond_true, if_pos hw, hat]
    rfl
  · rw [decide_eq_false hw, cond_false, if_neg hw, fail_eq, hat]
    by_cases h40 : 40 < ((s.drop a).takeWhile rst).length
    · rw [decide_eq_true (by omega), if_pos h40]
      rfl
    · rw [decide_eq_false (by omega), if_neg h40]
      rfl
/-- the byte that follows -/
def nextB (l : List UInt8) : Int := match l with | [] => 32 | c :: _ => (c.toNat : Int)
theorem number_eq (s : List UInt8) (hs : s.length ≤ 1000000) (a : Nat) (ha : a < s.length) (hd : dg s[a] = true) (n : Nat) (hn : s.length + 100 < n) :
    weirgate_lexer_reader_number_44 n ⟨s, a⟩ = some (resP s (numP (s.drop a))) := by
  unfold weirgate_lexer_reader_number_44 numP
  rw [while3 s hs a (by omega) n (by omega)]
  simp only [obind, Option.bind_some]
  obtain ⟨h1, h2, h3⟩ := while_fin (s := s) (p := dg) (show a ≤ s.length by omega)
  have hl := congrArg List.length h2
  rw [List.length_drop] at hl
  have hat : ((a + ((s.drop a).takeWhile dg).length : Nat) : Int) = ((s.length - ((s.drop a).dropWhile dg).length : Nat) : Int) := by omega
  have htw : (s.drop a).takeWhile dg = s[a] :: (s.drop (a + 1)).takeWhile dg := by rw [drop_cons ha, List.takeWhile_cons_of_pos hd]
  have hnext : ∀ {R : Type} (k : Int → Option R), bindJ (S := Int) (cond (decide (((a + ((s.drop a).takeWhile dg).length : Nat) : Int) < (s.length : Int)))
      (idx s ((a + ((s.drop a).takeWhile dg).length : Nat) : Int) fun c10 => some (.go (c10.toNat : Int))) (some (.go 32))) k = k (nextB ((s.drop a).dropWhile dg)) := by
    intro R k
    by_cases hj : a + ((s.drop a).takeWhile dg).length < s.length
    · rw [decide_eq_true (by omega), cond_true, idx_get'' hj, bindJ_go, ← h2, drop_cons hj]
      rfl
    · rw [decide_eq_false (by omega), cond_false, bindJ_go]
      have : (s.drop a).dropWhile dg = [] := by
        apply List.eq_nil_of_length_eq_zero
        omega
      rw [this]
      rfl
  rw [hnext]
  have hfirst : ∀ {R : Type} (k : Bool → Option R), bindJ (S := Bool) (cond (decide (18 < (((s.drop a).takeWhile dg).length : Int))) (some (.go true))
      (idx ((s.drop a).takeWhile dg) 0 fun c17 => some (.go (decide ((c17.toNat : Int) = 48) && decide (1 < (((s.drop a).takeWhile dg).length : Int)))))) k
      = k (decide (18 < ((s.drop a).takeWhile dg).length) || (decide (((s.drop a).takeWhile dg).head? = some 48) && decide (1 < ((s.drop a).takeWhile dg).length))) := by
    intro R k
    by_cases h18 : 18 < ((s.drop a).takeWhile dg).length
    · rw [decide_eq_true (by omega), cond_true, bindJ_go, decide_eq_true h18, Bool.true_or]
    · rw [decide_eq_false (by omega), cond_false, htw]
      rw [show (0 : Int) = ((0 : Nat) : Int) from rfl, idx_get'' (by simp), bindJ_go]
      rw [htw] at h18
      simp only [List.getElem_cons_zero, List.head?_cons]
      rw [byte_eq s[a] 48 48 rfl, decide_eq_false h18, Bool.false_or]
      congr 2
      · by_cases h48 : s[a] = 48 <;> simp [h48]
      · rw [decide_eq_decide]; omega
  rw [hfirst]
  have hbad : ∀ (q : Bool) (l : List UInt8), ∃ b : Bool, (bindJ (S := Bool) (cond q (some (.go true)) ((lexer_isRest (nextB l)).bind fun r27 => some (.go r27))) fun b21 =>
      some (b21 || (decide ((65 : Int) ≤ (nextB l)) && decide ((nextB l) ≤ 90)))) = some b ∧ b = (q || (match l with | [] => false | c :: _ => ltr c)) := by
    intro q l
    cases l with
    | nil => cases q <;> exact ⟨_, rfl, rfl⟩
    | cons c t =>
      unfold nextB
      simp only
      rw [rest_eq]
      refine ⟨q || ltr c, ?_, rfl⟩
      have : (decide ((65 : Int) ≤ (c.toNat : Int)) && decide ((c.toNat : Int) ≤ 90)) = (decide (65 ≤ c.toNat) && decide (c.toNat ≤ 90)) := by
        rw [Bool.eq_iff_iff]; simp only [Bool.and_eq_true, decide_eq_true_eq]; omega
      unfold ltr
      cases q <;> simp [bindJ_go, this]
  have hb2 : ∀ (q : Bool) (k : Bool → Option (Pn (S_api_Lexeme × S_lexer_reader))), (bindJ (S := Bool) (cond q (some (.go true)) ((lexer_isRest (nextB ((s.drop a).dropWhile dg))).bind fun r27 => some (.go r27))) fun b21 =>
      k (b21 || (decide ((65 : Int) ≤ (nextB ((s.drop a).dropWhile dg))) && decide ((nextB ((s.drop a).dropWhile dg)) ≤ 90)))) = k (q || (match (s.drop a).dropWhile dg with | [] => false | c :: _ => ltr c)) := by
    intro q k
    obtain ⟨b, e, hb⟩ := hbad q ((s.drop a).dropWhile dg)
    rw [← hb]
    revert e
    cases q with
    | true => simp only [cond_true, bindJ_go, Option.some.injEq]; intro e; rw [e]
    | false =>
      simp only [cond_false]
      cases lexer_isRest (nextB ((s.drop a).dropWhile dg)) with
      | none => intro e; cases e
      | some v => simp only [Option.bind_some, bindJ_go, Option.some.injEq]; intro e; rw [e]
  rw [hb2 _ (fun b => (lexer_fail b 181).bind _)]
  rw [fail_eq, hat]
  unfold badNum
  cases hB : (decide (18 < ((s.drop a).takeWhile dg).length) || (decide (((s.drop a).takeWhile dg).head? = some 48) && decide (1 < ((s.drop a).takeWhile dg).length)) || (match (s.drop a).dropWhile dg with | [] => false | c :: _ => ltr c)) <;> rfl
end Go.Proofs.YtgibkdldfnlglaaGreatDoor
namespace Go.Proofs.YtgibkdldfnlglaaGreatDoor
open Go.Abs Go.Lex
set_option linter.unusedSimpArgs false
set_option linter.unusedVariables false
theorem idxN_mem (c : UInt8) : ∀ l : List UInt8, (idxN c l).isSome = decide (c ∈ l)
  | [] => by simp [idxN]
  | b :: l => by
    have ih := idxN_mem c l
    unfold idxN
    by_cases h : b = c
    · simp [h]
    · have h' : ¬ c = b := fun q => h q.symm
      simp [h, h', ih]
theorem idx_in (c : UInt8) (l : List UInt8) : ∃ r, idxH l (c.toNat : Int) = some r ∧ ((0 ≤ r ∧ c ∈ l) ∨ (r = -1 ∧ c ∉ l)) := by
  have h := idxN_mem c l
  unfold idxH idxP
  rw [show ((c.toNat : Int)).toNat.toUInt8 = c by simp]
  cases hn : idxN c l with
  | none =>
    rw [hn] at h
    exact ⟨-1, rfl, .inr ⟨rfl, by simpa using h⟩⟩
  | some k =>
    rw [hn] at h
    exact ⟨k, rfl, .inl ⟨by omega, by simpa using h⟩⟩
/-- the next byte is the end, or a quotation mark, or a byte of the text -/
theorem text_loop (s : List UInt8) (hs : s.length ≤ 1000000) (a : Nat) (ha : a ≤ s.length) (n : Nat) (hn : s.length + 100 < n) :
    ∃ r, iter (weirgate_lexer_reader_text_46_L1 ⟨s, ((a : Nat) : Int)⟩) n (([] : List UInt8), (a : Int)) = some r ∧
      ((∃ (out : List UInt8) (i : Nat), r = .go (out, (i : Int)) ∧ i ≤ s.length ∧ (i = s.length ∨ ∃ h : i < s.length, s[i] = 34) ∧ txtP out (s.drop i) = txtP [] (s.drop a)) ∨ (r = .stop (.pan 182) ∧ txtP [] (s.drop a) = .inl 182)) := by
  refine iter_inv (step := weirgate_lexer_reader_text_46_L1 ⟨s, ((a : Nat) : Int)⟩) (fun x => ∃ (out : List UInt8) (i : Nat), x = (out, (i : Int)) ∧ i ≤ s.length ∧ out.length ≤ i ∧ txtP out (s.drop i) = txtP [] (s.drop a)) (fun x => s.length - x.2.toNat) _ ?_ n ([], (a : Int)) ⟨[], a, rfl, ha, by simp, rfl⟩ (by simp; omega)
  rintro x ⟨out, i, rfl, hi, ho, hk⟩
  unfold weirgate_lexer_reader_text_46_L1
  simp only
  by_cases hlt : i < s.length
  · rw [decide_eq_true (show (i : Int) < (s.length : Int) by omega), cond_true, idx_get'' hlt, bindJ_go]
    rw [show decide ((s[i].toNat : Int) ≠ 34) = !decide (s[i] = 34) by rw [← byte_eq s[i] 34 34 rfl]; simp]
    by_cases h34 : s[i] = 34
    · rw [decide_eq_true h34, Bool.not_true, cond_false]
      exact .inr ⟨_, rfl, .inl ⟨out, i, rfl, hi, .inr ⟨hlt, h34⟩, hk⟩⟩
    · rw [decide_eq_false h34, Bool.not_false, cond_true, idx_get'' hlt]
      have hc := drop_cons hlt
      rw [hc, txt_cons, if_neg h34] at hk
      by_cases h92 : s[i] = 92
      · rw [byte_eq s[i] 92 92 rfl, decide_eq_true h92, cond_true]
        rw [if_pos h92] at hk
        rw [w64 (x := (i : Int) + 1) (by omega) (by omega), show (i : Int) + 1 = ((i + 1 : Nat) : Int) by omega]
        by_cases hl2 : i + 1 < s.length
        · rw [decide_eq_true (by omega), cond_true, idx_get'' hl2]
          obtain ⟨r, e, h⟩ := idx_in s[i + 1] [34, 92]
          rw [e]
          simp only [obind, Option.bind_some, bindJ_go]
          rw [drop_cons hl2] at hk
          simp only at hk
          rcases h with ⟨h0, hm⟩ | ⟨rfl, hm⟩
          · rw [decide_eq_true h0, cond_true, idx_get'' hl2]
            have hm' : s[i + 1] = 34 ∨ s[i + 1] = 92 := by simpa using hm
            rw [if_pos hm'] at hk
            simp only [bindJ_go]
            have hr : 32 ≤ s[i + 1].toNat ∧ s[i + 1].toNat ≤ 126 := by rcases hm' with h | h <;> rw [h] <;> decide
            rw [fail_eq, decide_eq_false (show ¬ ((s[i + 1].toNat : Nat) : Int) < 32 by omega), decide_eq_false (show ¬ (126 : Int) < ((s[i + 1].toNat : Nat) : Int) by omega)]
            simp only [Bool.or_self, Bool.false_eq_true, if_false, Option.bind_some, pbind]
            rw [need_pos (by omega), need_pos (by simp; omega), w64 (by omega) (by omega)]
            refine .inl ⟨_, rfl, ⟨out ++ [s[i + 1]], i + 2, ?_, by omega, by simp; omega, hk⟩, by simp only; omega⟩
            simp
            omega
          · rw [decide_eq_false (by omega), cond_false]
            have hm' : ¬ (s[i + 1] = 34 ∨ s[i + 1] = 92) := by simpa using hm
            rw [if_neg hm'] at hk
            simp only [bindJ_go]
            rw [fail_eq, decide_eq_true (show (0 : Int) < 32 by decide)]
            simp only [Bool.true_or, if_true, Option.bind_some, pbind]
            exact .inr ⟨_, rfl, .inr ⟨rfl, hk.symm⟩⟩
        · rw [decide_eq_false (by omega), cond_false]
          have : s.drop (i + 1) = [] := List.drop_eq_nil_of_le (by omega)
          rw [this] at hk
          simp only [bindJ_go, cond_false]
          rw [fail_eq, decide_eq_true (show (0 : Int) < 32 by decide)]
          simp only [obind, Bool.true_or, if_true, Option.bind_some, pbind]
          exact .inr ⟨_, rfl, .inr ⟨rfl, hk.symm⟩⟩
      · rw [byte_eq s[i] 92 92 rfl, decide_eq_false h92, cond_false]
        rw [if_neg h92] at hk
        simp only [bindJ_go]
        rw [fail_eq]
        by_cases hb : s[i].toNat < 32 ∨ 126 < s[i].toNat
        · rw [if_pos hb] at hk
          rw [show (decide (((s[i].toNat : Nat) : Int) < 32) || decide ((126 : Int) < ((s[i].toNat : Nat) : Int))) = true by simp only [Bool.or_eq_true, decide_eq_true_eq]; omega]
          simp only [obind, if_true, Option.bind_some, pbind]
          exact .inr ⟨_, rfl, .inr ⟨rfl, hk.symm⟩⟩
        · rw [if_neg hb] at hk
          rw [show (decide (((s[i].toNat : Nat) : Int) < 32) || decide ((126 : Int) < ((s[i].toNat : Nat) : Int))) = false by rw [Bool.eq_false_iff]; intro h; simp only [Bool.or_eq_true, decide_eq_true_eq] at h; omega]
          simp only [obind, Bool.false_eq_true, if_false, Option.bind_some, pbind]
          rw [need_pos (by omega), need_pos (by simp; omega), w64 (by omega) (by omega)]
          refine .inl ⟨_, rfl, ⟨out ++ [s[i]], i + 1, ?_, by omega, by simp; omega, hk⟩, by simp only; omega⟩
          simp
  · rw [decide_eq_false (by omega), cond_false, bindJ_go, cond_false]
    exact .inr ⟨_, rfl, .inl ⟨out, i, rfl, hi, .inl (by omega), hk⟩⟩
theorem text_eq (s : List UInt8) (hs : s.length ≤ 1000000) (a : Nat) (ha : a < s.length) (n : Nat) (hn : s.length + 100 < n) :
    weirgate_lexer_reader_text_46 n ⟨s, a⟩ = some (resP s (txtP [] (s.drop (a + 1)))) := by
  unfold weirgate_lexer_reader_text_46
  simp only
  rw [w64 (by omega) (by omega), show (a : Int) + 1 = ((a + 1 : Nat) : Int) by omega]
  have hstep : weirgate_lexer_reader_text_46_L1 ⟨s, ((a : Nat) : Int)⟩ = weirgate_lexer_reader_text_46_L1 ⟨s, ((a + 1 : Nat) : Int)⟩ := rfl
  obtain ⟨r, e, h⟩ := text_loop s hs (a + 1) (by omega) n hn
  rw [hstep, e]
  rcases h with ⟨out, i, rfl, hi, hend, hk⟩ | ⟨rfl, hk⟩
  · rw [bindJ_go, ← hk]
    simp only
    rcases hend with rfl | ⟨h, h34⟩
    · rw [decide_eq_true (by omega), Bool.true_or, fail_eq, List.drop_length, txt_nil]
      rfl
    · rw [decide_eq_false (by omega), Bool.false_or, fail_eq, drop_cons h, txt_cons, if_pos h34]
      by_cases h200 : 200 < out.length
      · rw [decide_eq_true (by omega), if_pos h200]
        rfl
      · rw [decide_eq_false (by omega), if_neg h200]
        simp only [obind, Bool.false_eq_true, if_false, Option.bind_some, pbind, resP, List.length_drop]
        rw [w64 (by omega) (by omega)]
        congr 4
        omega
  · rw [bindJ_stop, hk]
    rfl
theorem signs_eq : fieldsH [61, 61, 32, 33, 61, 32, 60, 61, 32, 62, 61, 32, 46, 46] = some longs := by
  unfold fieldsH
  rw [need_pos (by decide +kernel)]
  simp only [Option.some.injEq]
  decide +kernel
theorem sign_eq (s : List UInt8) (hs : s.length ≤ 1000000) (a : Nat) (ha : a < s.length) (n : Nat) (hn : s.length + 100 < n) :
    weirgate_lexer_reader_sign_48 n ⟨s, a⟩ = some (resP s (sgnP (s.drop a))) := by
  unfold weirgate_lexer_reader_sign_48
  simp only
  rw [w64 (x := (a : Int) + 2) (by omega) (by omega)]
  have hmin : (min ((a : Int) + 2) (s.length : Int)).toNat = min (a + 2) s.length := by omega
  rw [need_pos (by omega), hmin, Int.toNat_natCast]
  have htwo : (s.take (min (a + 2) s.length)).drop a = (s.drop a).take 2 := by
    rw [List.drop_take]
    apply List.ext_getElem
    · simp; omega
    · intro i h1 h2; simp
  rw [htwo]
  have hlong : longs.length < n := by have : longs.length = 5 := rfl; omega
  have h1 : ∀ k : Nat, a + k ≤ s.length → (s.take (a + k)).drop a = (s.drop a).take k := fun k _ => by rw [List.drop_take, Nat.add_sub_cancel_left]
  have hc := drop_cons ha
  by_cases h2 : a + 1 < s.length
  · have hc2 := drop_cons h2
    have ht : (s.drop a).take 2 = [s[a], s[a + 1]] := by rw [hc, hc2]; rfl
    have ht1 : (s.drop a).take 1 = [s[a]] := by rw [hc]; rfl
    rw [ht, show decide ((([s[a], s[a + 1]] : List UInt8).length : Int) = 2) = true from rfl, cond_true, signs_eq]
    simp only [obind, Option.bind_some]
    rw [contains_eq longs (by decide) _ n hlong, hc, hc2, sgn_two]
    rw [hc] at ht ht1 h1
    rw [hc2] at ht h1
    simp only [Option.bind_some, bindJ_go]
    by_cases hm : [s[a], s[a + 1]] ∈ longs
    · rw [decide_eq_true hm, cond_true, bindJ_go, if_pos hm, w64 (by omega) (by omega), show (a : Int) + 2 = ((a + 2 : Nat) : Int) by omega, need_pos (by omega), show decide ((2 : Int) = 1) = false from rfl, cond_false, bindJ_go, fail_eq, Int.toNat_natCast, h1 2 (by omega), ht]
      simp only [Bool.false_eq_true, if_false, Option.bind_some, pbind, resP, List.length_drop]
      congr 4
      omega
    · rw [decide_eq_false hm, cond_false, bindJ_go, if_neg hm, w64 (by omega) (by omega), show (a : Int) + 1 = ((a + 1 : Nat) : Int) by omega, need_pos (by omega), show decide ((1 : Int) = 1) = true from rfl, cond_true, Int.toNat_natCast, h1 1 (by omega), show (s[a] :: s[a + 1] :: s.drop (a + 1 + 1)).take 1 = [s[a]] from rfl]
      rw [show (0 : Int) = ((0 : Nat) : Int) from rfl, idx_get'' (by simp)]
      obtain ⟨r, e, h⟩ := idx_in s[a] shorts
      unfold shorts at e h
      simp only [List.getElem_cons_zero]
      rw [e]
      simp only [Option.bind_some, bindJ_go]
      rw [fail_eq]
      rcases h with ⟨h0, hm'⟩ | ⟨rfl, hm'⟩
      · rw [decide_eq_false (by omega), if_pos (show s[a] ∈ shorts from hm')]
        simp only [Bool.false_eq_true, if_false, Option.bind_some, pbind, resP, List.length_cons, List.length_drop]
        congr 4
        omega
      · rw [decide_eq_true (by omega), if_neg (show s[a] ∉ shorts from hm')]
        rfl
  · have hn2 : s.drop (a + 1) = [] := List.drop_eq_nil_of_le (by omega)
    have ht : (s.drop a).take 2 = [s[a]] := by rw [hc, hn2]; rfl
    have ht1 : (s.drop a).take 1 = [s[a]] := by rw [hc, hn2]; rfl
    rw [ht, show decide ((([s[a]] : List UInt8).length : Int) = 2) = false from rfl, show sgnP (s.drop a) = sgnP [s[a]] by rw [hc, hn2], cond_false, bindJ_go, cond_false, bindJ_go, sgn_one, w64 (by omega) (by omega), show (a : Int) + 1 = ((a + 1 : Nat) : Int) by omega, need_pos (by omega), show decide ((1 : Int) = 1) = true from rfl, cond_true, Int.toNat_natCast, h1 1 (by omega), ht1]
    rw [show (0 : Int) = ((0 : Nat) : Int) from rfl, idx_get'' (by simp)]
    obtain ⟨r, e, h⟩ := idx_in s[a] shorts
    unfold shorts at e h
    simp only [List.getElem_cons_zero]
    rw [e]
    simp only [obind, Option.bind_some, bindJ_go]
    rw [fail_eq]
    rcases h with ⟨h0, hm'⟩ | ⟨rfl, hm'⟩
    · rw [decide_eq_false (by omega), if_pos (show s[a] ∈ shorts from hm')]
      simp only [Bool.false_eq_true, if_false, Option.bind_some, pbind, resP, List.length_nil]
      congr 4
      omega
    · rw [decide_eq_true (by omega), if_neg (show s[a] ∉ shorts from hm')]
      rfl
/-! the tokens of a source -/
def mkT (N : Nat) (x : Int × Nat × List UInt8) : S_api_Lexeme := ⟨x.1, ((N - x.2.1 : Nat) : Int), x.2.2⟩
/-- what Tokens returns -/
def tokR (s : List UInt8) : List S_api_Lexeme × S_api_Problem := match (toksP kwP (s.length + 1) s).2 with
  | some (k, e) => ([], ⟨((s.length - k : Nat) : Int), e⟩)
  | none => ((toksP kwP (s.length + 1) s).1.map (mkT s.length), ⟨0, 0⟩)
end Go.Proofs.YtgibkdldfnlglaaGreatDoor
namespace Go.Proofs.YtgibkdldfnlglaaGreatDoor
open Go.Abs Go.Lex
set_option linter.unusedSimpArgs false
set_option linter.unusedVariables false
theorem tok_step (s : List UInt8) (hs : s.length ≤ 1000000) (a : Nat) (ha : a < s.length) (n : Nat) (hn : s.length + 100 < n) (l : List S_api_Lexeme) (hl : l.length ≤ 1000000) {R : Type} (k : List S_api_Lexeme × List UInt8 × Int → Option (Lp ((List S_api_Lexeme) × (List UInt8) × Int × Int) (Lp (List S_api_Lexeme) (List S_api_Lexeme × S_api_Problem)))) :
    bindJ (S := (List S_api_Lexeme) × (List UInt8) × Int)
    (idx s (a : Int) fun c38 =>
    obind (lexer_isSmall (c38.toNat : Int)) fun r39 =>
    cond r39
     (obind (weirgate_lexer_reader_name_42 n (S_lexer_reader.mk s (a : Int))) fun r42 =>
     pbind r42 (fun e45 =>
      some (.stop (.stop (.stop (([] : List S_api_Lexeme), (S_api_Problem.mk (a : Int) e45)))))) fun q44 =>
     need (l.length + ([(S_api_Lexeme.mk q44.1.Kind (a : Int) q44.1.S)] : List S_api_Lexeme).length ≤ 4294967296) (
     some (.go ((l ++ ([(S_api_Lexeme.mk q44.1.Kind (a : Int) q44.1.S)] : List S_api_Lexeme)), q44.2.s_, q44.2.at_))))
     (idx s (a : Int) fun c54 =>
     obind (lexer_isDigit (c54.toNat : Int)) fun r55 =>
     cond r55
      (obind (weirgate_lexer_reader_number_44 n (S_lexer_reader.mk s (a : Int))) fun r58 =>
      pbind r58 (fun e61 =>
       some (.stop (.stop (.stop (([] : List S_api_Lexeme), (S_api_Problem.mk (a : Int) e61)))))) fun q60 =>
      need (l.length + ([(S_api_Lexeme.mk q60.1.Kind (a : Int) q60.1.S)] : List S_api_Lexeme).length ≤ 4294967296) (
      some (.go ((l ++ ([(S_api_Lexeme.mk q60.1.Kind (a : Int) q60.1.S)] : List S_api_Lexeme)), q60.2.s_, q60.2.at_))))
      (idx s (a : Int) fun c70 =>
      obind (lexer_forms_1_45 (c70.toNat : Int)) fun r71 =>
      cond r71
       (obind (weirgate_lexer_reader_text_46 n (S_lexer_reader.mk s (a : Int))) fun r74 =>
       pbind r74 (fun e77 =>
        some (.stop (.stop (.stop (([] : List S_api_Lexeme), (S_api_Problem.mk (a : Int) e77)))))) fun q76 =>
       need (l.length + ([(S_api_Lexeme.mk q76.1.Kind (a : Int) q76.1.S)] : List S_api_Lexeme).length ≤ 4294967296) (
       some (.go ((l ++ ([(S_api_Lexeme.mk q76.1.Kind (a : Int) q76.1.S)] : List S_api_Lexeme)), q76.2.s_, q76.2.at_))))
       (idx s (a : Int) fun c86 =>
       obind (lexer_forms_2_47 (c86.toNat : Int)) fun r87 =>
       cond r87
        (obind (weirgate_lexer_reader_sign_48 n (S_lexer_reader.mk s (a : Int))) fun r90 =>
        pbind r90 (fun e93 =>
         some (.stop (.stop (.stop (([] : List S_api_Lexeme), (S_api_Problem.mk (a : Int) e93)))))) fun q92 =>
        need (l.length + ([(S_api_Lexeme.mk q92.1.Kind (a : Int) q92.1.S)] : List S_api_Lexeme).length ≤ 4294967296) (
        some (.go ((l ++ ([(S_api_Lexeme.mk q92.1.Kind (a : Int) q92.1.S)] : List S_api_Lexeme)), q92.2.s_, q92.2.at_))))
        (some (.go (l, s, (a : Int)))))))) k
    = match nextP kwP (s.drop a) with
      | .inl e => some (.stop (.stop ([], ⟨(a : Int), e⟩)))
      | .inr (kd, w, r) => k (l ++ [⟨kd, (a : Int), w⟩], s, ((s.length - r.length : Nat) : Int)) := by
  have hneed : ∀ x : S_api_Lexeme, l.length + ([x] : List S_api_Lexeme).length ≤ 4294967296 := fun x => by simp; omega
  have hfin : ∀ q : Sum Int (Int × List UInt8 × List UInt8), bindJ (S := (List S_api_Lexeme) × (List UInt8) × Int) (obind (some (resP s q)) fun r42 =>
     pbind r42 (fun e45 =>
      some (.stop (.stop (.stop (([] : List S_api_Lexeme), (S_api_Problem.mk (a : Int) e45)))))) fun q44 =>
     need (l.length + ([(S_api_Lexeme.mk q44.1.Kind (a : Int) q44.1.S)] : List S_api_Lexeme).length ≤ 4294967296) (
     some (.go ((l ++ ([(S_api_Lexeme.mk q44.1.Kind (a : Int) q44.1.S)] : List S_api_Lexeme)), q44.2.s_, q44.2.at_)))) k
      = match q with
      | .inl e => some (.stop (.stop ([], ⟨(a : Int), e⟩)))
      | .inr (kd, w, r) => k (l ++ [⟨kd, (a : Int), w⟩], s, ((s.length - r.length : Nat) : Int)) := by
    intro q
    cases q with
    | inl e => rfl
    | inr q =>
      obtain ⟨kd, w, r⟩ := q
      simp only [resP, obind, Option.bind_some, pbind]
      rw [need_pos (hneed _), bindJ_go]
  have hc := drop_cons ha
  rw [idx_get'' ha, small_eq]
  have hne := next_cons kwP s[a] (s.drop (a + 1))
  rw [← hc] at hne
  rw [hne]
  cases h1 : sm s[a] with
  | true =>
    simp only [obind, Option.bind_some, cond_true, if_true]
    rw [name_eq s hs a (by omega) n hn]
    exact hfin _
  | false =>
    simp only [obind, Option.bind_some, cond_false, Bool.false_eq_true, if_false]
    rw [idx_get'' ha, digit_eq]
    cases h2 : dg s[a] with
    | true =>
      simp only [Option.bind_some, cond_true, if_true]
      rw [number_eq s hs a ha h2 n hn]
      exact hfin _
    | false =>
      simp only [Option.bind_some, cond_false, Bool.false_eq_true, if_false]
      rw [idx_get'' ha]
      unfold lexer_forms_1_45
      rw [byte_eq s[a] 34 34 rfl]
      by_cases h3 : s[a] = 34
      · simp only [h3, decide_true, Option.bind_some, cond_true, if_true]
        rw [text_eq s hs a ha n hn]
        exact hfin _
      · simp only [h3, decide_false, Option.bind_some, cond_false, if_false]
        rw [idx_get'' ha]
        unfold lexer_forms_2_47
        simp only [Option.bind_some, cond_true]
        rw [sign_eq s hs a ha n hn]
        exact hfin _
theorem tokens_loop (s : List UInt8) (hs : s.length ≤ 1000000) (n : Nat) (hn : s.length + 100 < n) :
    ∃ r, iter (lexer_Tokens_L1 n s) n (([] : List S_api_Lexeme), s, ((s.length - (skipP false s).length : Nat) : Int), 0) = some r ∧
      ((r = .go ((toksP kwP (s.length + 1) s).1.map (mkT s.length)) ∧ (toksP kwP (s.length + 1) s).2 = none) ∨ ∃ k e, r = .stop ([], ⟨((s.length - k : Nat) : Int), e⟩) ∧ (toksP kwP (s.length + 1) s).2 = some (k, e)) := by
  refine iter_inv (step := lexer_Tokens_L1 n s) (fun x => ∃ (d : List (Int × Nat × List UInt8)) (i : Nat) (z : Int), x = (d.map (mkT s.length), s, (i : Int), z) ∧ i ≤ s.length ∧ d.length ≤ i ∧ skipP false (s.drop i) = s.drop i ∧
      (toksP kwP (s.length + 1) s).1 = d ++ (toksP kwP (s.length + 1) (s.drop i)).1 ∧ (toksP kwP (s.length + 1) s).2 = (toksP kwP (s.length + 1) (s.drop i)).2) (fun x => s.length - x.2.2.1.toNat) _ ?_ n _ ?_ (by simp; omega)
  · rintro x ⟨d, i, z, rfl, hi, hd, hk, e1, e2⟩
    unfold lexer_Tokens_L1
    simp only
    by_cases hlt : i < s.length
    · rw [decide_eq_true (show (i : Int) < (s.length : Int) by omega), cond_true, tok_step (R := Unit) s hs i hlt n hn (d.map (mkT s.length)) (by simp; omega)]
      have hc := drop_cons hlt
      rw [hc] at hk
      cases hq : nextP kwP (s.drop i) with
      | inl e =>
        rw [hc] at hq
        rw [hc, toks_inl hk hq] at e2
        refine .inr ⟨_, rfl, .inr ⟨_, e, ?_, e2⟩⟩
        simp only [List.length_drop, Lp.stop.injEq, Prod.mk.injEq, S_api_Problem.mk.injEq, true_and, and_true]
        omega
      | inr q =>
        obtain ⟨kd, w, r⟩ := q
        simp only
        have hlen := next_len hq
        have hsuf := (next_suf hq).trans (List.drop_suffix i s)
        rw [hc] at hq
        rw [hc, toks_inr hk hq] at e1 e2
        have hrl : r.length ≤ s.length := hsuf.length_le
        rw [space_eq s hs _ (by omega) n (by omega), suf_drop hsuf]
        simp only [obind, Option.bind_some]
        have hsk := skip_suffix false r
        have hsl := hsk.length_le
        rw [List.length_drop] at hlen
        refine .inl ⟨_, rfl, ⟨d ++ [(kd, s.length - i, w)], s.length - (skipP false r).length, (i : Int), ?_, by omega, by simp; omega, ?_, ?_, ?_⟩, by simp only; omega⟩
        · simp only [List.map_append, List.map_cons, List.map_nil, Prod.mk.injEq, and_true]
          congr 2
          unfold mkT
          simp only [S_api_Lexeme.mk.injEq, true_and, and_true]
          omega
        · rw [suf_drop (hsk.trans hsuf), skip_idem]
        · rw [suf_drop (hsk.trans hsuf), toks_skip, e1]
          simp only [List.length_drop, List.append_assoc, List.cons_append, List.nil_append]
          rw [toks_fuel kwP s.length (s.length + 1) r (by omega) (by omega), show s.length - (i + 1) + 1 = s.length - i by omega]
        · rw [suf_drop (hsk.trans hsuf), toks_skip, e2]
          simp only
          rw [toks_fuel kwP s.length (s.length + 1) r (by omega) (by omega)]
    · rw [decide_eq_false (by omega), cond_false]
      have : s.drop i = [] := List.drop_eq_nil_of_le (by omega)
      rw [this, toks_nil (kw := kwP) (s := []) rfl] at e1 e2
      refine .inr ⟨_, rfl, .inl ⟨?_, e2⟩⟩
      rw [e1, List.append_nil]
  · have hsk := skip_suffix false s
    refine ⟨[], s.length - (skipP false s).length, 0, rfl, by omega, by simp, ?_, ?_, ?_⟩
    · rw [suf_drop hsk, skip_idem]
    · rw [suf_drop hsk, toks_skip]; rfl
    · rw [suf_drop hsk, toks_skip]
theorem tokens_eq (s : List UInt8) (hs : s.length ≤ 65536) (n : Nat) (hn : s.length + 100 < n) : lexer_Tokens n s = some (tokR s) := by
  unfold lexer_Tokens
  rw [decide_eq_false (by omega), cond_false]
  unfold lexer_forms
  simp only [obind, Option.bind_some]
  have h0 := space_eq s (by omega) 0 (by omega) n (by omega)
  rw [List.drop_zero] at h0
  have h0' : weirgate_lexer_reader_space_28 n ⟨s, 0⟩ = _ := h0
  rw [h0']
  simp only [Option.bind_some]
  obtain ⟨r, e, h⟩ := tokens_loop s (by omega) n hn
  rw [e]
  unfold tokR
  rcases h with ⟨rfl, h2⟩ | ⟨k, e, rfl, h2⟩
  · rw [h2]; rfl
  · rw [h2]; rfl
theorem sane (n : Nat) : law18_sanity (n + 60) = some true := by kernel_rfl
end Go.Proofs.YtgibkdldfnlglaaGreatDoor
