/-
  Texts that stand side by side: Pl, AbsEnd, AbsEnd2, AbsEnd3, AbsEnd4, AbsEnd5, AbsLaid, Opn3, P3, LaidD.
-/
import Derived.Test.YtbgpojdmdnkeaaaDoorM8
import Derived.Test.YtbgpojdmdnkeaaaDoorW3
import Derived.Test.YtbgpojdmdnkeaaaDoorM0
import Derived.WalkKit
import Derived.ProofKit
import Derived.OpenShut
import Derived.ShutString
import Derived.ChangeOld
import Derived.Below
import Derived.SliceStrings
import Derived.Test.YtbgpojdmdnkeaaaDoorM1
import Derived.ChangeArms
import Derived.Test.YtbgpojdmdnkeaaaDoorM2
import Derived.LaidHandle
import Derived.Deep.DeepHandedRow
import Derived.Test.YtbgpojdmdnkeaaaDoorRows
import Derived.Test.YtbgpojdmdnkeaaaDoorChecked
namespace Go.Proofs.YtbgpojdmdnkeaaaDoor
open Go.Abs
set_option linter.unusedSimpArgs false
set_option linter.unusedVariables false
theorem idx_0 {α β : Type} {l : List α} (h : 0 < l.length) (k : α → Option β) : idx l 0 k = k l[0] := idx_get' h k
theorem rright_eq (s : S_api_Segment) : ref43_Right s = some (decide (okSeg s)) := by
  unfold ref43_Right
  congr 1
  rw [Bool.eq_iff_iff]
  simp only [Bool.and_eq_true, decide_eq_true_eq]
  unfold okSeg
  omega
theorem rstream_loop (l : List S_api_Segment) (hl : l.length ≤ 4294967296) (n : Nat) (hn : l.length < n) :
    ∃ r, iter (ref43_Stream_L1 l) n 0 = some r ∧ ((r = .go () ∧ Strm l) ∨ (r = .stop false ∧ ¬ Strm l)) := by
  refine iter_inv (step := ref43_Stream_L1 l) (fun s : Int => ∃ i : Nat, s = i ∧ i ≤ l.length ∧ (∀ j (h : j < l.length), j < i → okSeg l[j]) ∧ ∀ j (h : j + 1 < l.length), j + 1 < i → joins l[j] l[j + 1]) (fun s => l.length - s.toNat) _ ?_ n 0 ⟨0, rfl, Nat.zero_le _, fun j h hj => by omega, fun j h hj => by omega⟩ (by simpa using hn)
  rintro s ⟨i, rfl, hi, hok, hj⟩
  unfold ref43_Stream_L1
  by_cases hlt : i < l.length
  · have e : decide ((i : Int) < (l.length : Int)) = true := by simpa using hlt
    simp only [e, cond_true]
    rw [idx_get' hlt, rright_eq]
    simp only [obind, Option.bind_some]
    by_cases hk : okSeg l[i]
    · simp only [hk, decide_true, Bool.not_true, cond_false]
      by_cases h0 : i = 0
      · subst h0
        left
        refine ⟨((1 : Nat) : Int), by simp [w64], ⟨1, rfl, by omega, fun j h hj' => ?_, fun j h hj' => by omega⟩, by simp; omega⟩
        obtain rfl : j = 0 := by omega
        exact hk
      · have e1 : decide (0 < (i : Int)) = true := by simp; omega
        simp only [e1, cond_true]
        have hp : i - 1 < l.length := by omega
        rw [w64 (x := (i : Int) - 1) (by omega) (by omega), show (i : Int) - 1 = ((i - 1 : Nat) : Int) by omega, idx_get' hp]
        have hkp := hok (i - 1) hp (by omega)
        have hkp' := hkp
        unfold okSeg at hkp'
        rw [w64 (x := l[i - 1].Num + 1) (by omega) (by omega), w64 (x := l[i - 1].Begin + l[i - 1].Len) (by omega) (by omega)]
        simp only [bindJ_go]
        by_cases hjn : joins l[i - 1] l[i]
        · left
          obtain ⟨j1, j2⟩ := hjn
          refine ⟨((i + 1 : Nat) : Int), ?_, ⟨i + 1, rfl, by omega, fun j h hj' => ?_, fun j h hj' => ?_⟩, by simp; omega⟩
          · simp only [j1, j2, ne_eq, not_true_eq_false, decide_false, cond_false, Bool.or_self]
            rw [w64 (x := (i : Int) + 1) (by omega) (by omega)]; rfl
          · by_cases e : j = i
            · subst e; exact hk
            · exact hok j h (by omega)
          · by_cases e : j + 1 = i
            · subst e; exact ⟨j1, j2⟩
            · exact hj j h (by omega)
        · right
          refine ⟨.stop false, ?_, .inr ⟨rfl, fun hS => hjn ?_⟩⟩
          · have : (decide (l[i].Num ≠ l[i - 1].Num + 1) || decide (l[i].Begin ≠ l[i - 1].Begin + l[i - 1].Len)) = true := by
              simp only [Bool.or_eq_true, decide_eq_true_eq]
              by_cases h1 : l[i].Num = l[i - 1].Num + 1
              · exact .inr fun h2 => hjn ⟨h1, h2⟩
              · exact .inl h1
            rw [this, cond_true]
          · have := hS.2 (i - 1) (by omega)
            simpa [show i - 1 + 1 = i by omega] using this
    · right
      refine ⟨.stop false, by simp [hk], .inr ⟨rfl, fun hS => hk (hS.1 i hlt)⟩⟩
  · have e : decide ((i : Int) < (l.length : Int)) = false := by simp; omega
    right
    exact ⟨.go (), by simp only [e, cond_false], .inl ⟨rfl, fun j h => hok j h (by omega), fun j h => hj j h (by omega)⟩⟩
open Classical in
theorem rstream_eq (l : List S_api_Segment) (hl : l.length ≤ 4294967296) (n : Nat) (hn : l.length < n) : ref43_Stream n l = some (decide (Strm l ∧ l.length ≤ 1000)) := by
  unfold ref43_Stream
  obtain ⟨r, e, h⟩ := rstream_loop l hl n hn
  rw [e]
  rcases h with ⟨rfl, h⟩ | ⟨rfl, h⟩
  · have e1 : ((l.length : Int) ≤ 1000) ↔ (Strm l ∧ l.length ≤ 1000) := ⟨fun q => ⟨h, by omega⟩, fun q => by have := q.2; omega⟩
    simp only [bindJ_go, e1]
  · have e1 : ¬ (Strm l ∧ l.length ≤ 1000) := fun q => h q.1
    simp only [bindJ_stop, e1, decide_false]
/-- some segments of a stream, as a playlist -/
def partP (l : List S_api_Segment) (x : Int) (i j : Nat) (d : Bool) : S_api_Playlist := ⟨x + i, (l.take j).drop i, d && decide (j = l.length)⟩
theorem partP_len (l : List S_api_Segment) (x : Int) (i j : Nat) (d : Bool) (hj : j ≤ l.length) : (partP l x i j d).L.length = j - i := by
  unfold partP; simp; omega
theorem partP_at {l : List S_api_Segment} {x : Int} {i j : Nat} {d : Bool} (hj : j ≤ l.length) (k : Nat) (h : k < (partP l x i j d).L.length) : (partP l x i j d).L[k] = l[i + k]'(by rw [partP_len _ _ _ _ _ hj] at h; omega) := by
  have hx : k < ((l.take j).drop i).length := h
  show (List.drop i (List.take j l))[k]'hx = _
  rw [List.getElem_drop, List.getElem_take]
theorem part_valid {l : List S_api_Segment} (hs : Strm l) (hl : l.length ≤ 60) (h0 : 0 < l.length) (i j : Nat) (d : Bool) (hij : i < j) (hj : j ≤ l.length) : VP (partP l l[0].Num i j d) := by
  have hn := num_stream hs i (by omega)
  have hk := hs.1 i (by omega)
  have hz := hs.1 0 h0
  unfold okSeg at hk hz
  have hF : (partP l l[0].Num i j d).First = l[0].Num + i := rfl
  have hlen := partP_len l l[0].Num i j d hj
  refine ⟨by rw [hF]; omega, by rw [hF]; omega, by rw [hlen]; omega, fun h => ?_, fun k h => ?_, fun k h => ?_⟩
  · rw [partP_at hj 0 h, hF]
    simpa using hn
  · rw [partP_at hj k h]
    exact hs.1 _ _
  · rw [partP_at hj k (by omega), partP_at hj (k + 1) h]
    exact hs.2 (i + k) (by rw [hlen] at h; omega)
theorem part_next (l : List S_api_Segment) (x : Int) (i j : Nat) (d : Bool) (hij : i ≤ j) (hj : j ≤ l.length) : nextP (partP l x i j d) = x + j := by
  unfold nextP
  rw [partP_len _ _ _ _ _ hj]
  show x + i + ((j - i : Nat) : Int) = x + j
  omega
/-- an earlier and a later part of one stream together -/
theorem mergeEL_part {l : List S_api_Segment} (hs : Strm l) (hl : l.length ≤ 60) (h0 : 0 < l.length) (d : Bool) (i j i' j' : Nat) (hij : i < j) (hij' : i' < j') (hjj : j ≤ j') (hj : j' ≤ l.length) (D : Bool) (hD : D = (d && decide (j' = l.length))) :
    mergeEL (partP l l[0].Num i j d) (partP l l[0].Num i' j' d) D 100 = (partP l l[0].Num (if i' ≤ j then min i i' else i') j' d, 0) := by
  have n1 := part_next l l[0].Num i j d (by omega) (by omega)
  have n2 := part_next l l[0].Num i' j' d (by omega) (by omega)
  have l1 := partP_len l l[0].Num i j d (by omega)
  have l2 := partP_len l l[0].Num i' j' d (by omega)
  have hcut : ∀ p : S_api_Playlist, p.L.length ≤ 60 → cutP p 100 = p := by
    intro p hp
    unfold cutP
    rw [show max (0 : Int) ((p.L.length : Int) - 100) = 0 by omega]
    simp
  unfold mergeEL
  rw [if_neg, if_neg]
  · by_cases hm : i' ≤ j
    · have hM : Meet (partP l l[0].Num i j d) (partP l l[0].Num i' j' d) := ⟨by omega, by omega, by rw [n1]; show l[0].Num + i' ≤ _; omega⟩
      rw [if_pos hM, if_neg, if_pos hm]
      · have hj1 : joinEL (partP l l[0].Num i j d) (partP l l[0].Num i' j' d) D = partP l l[0].Num (min i i') j' d := by
          have hF : (partP l l[0].Num i j d).First = l[0].Num + i := rfl
          have hF' : (partP l l[0].Num i' j' d).First = l[0].Num + i' := rfl
          unfold joinEL
          rw [hF, hF']
          by_cases hii : i ≤ i'
          · rw [show max (0 : Int) (l[0].Num + i' - (l[0].Num + i)) = ((i' - i : Nat) : Int) by omega, Int.toNat_natCast, Nat.min_eq_left hii]
            unfold partP
            simp only [S_api_Playlist.mk.injEq]
            refine ⟨by omega, ?_, hD⟩
            rw [List.take_drop, List.take_take, show min (i + (i' - i)) j = i' by omega]
            apply List.ext_getElem
            · simp; omega
            · intro k k1 k2
              rw [List.getElem_append]
              simp only [List.getElem_drop, List.getElem_take, List.length_drop, List.length_take]
              split
              · rfl
              · congr 1
                simp at k1
                omega
          · rw [show max (0 : Int) (l[0].Num + i' - (l[0].Num + i)) = 0 by omega, Nat.min_eq_right (by omega)]
            unfold partP
            simp [hD]
        rw [hj1, hcut _ (by rw [partP_len _ _ _ _ _ hj]; omega)]
      · rintro ⟨e1, e2⟩
        refine e2 ?_
        rw [n1] at e1
        have e3 : j = i' := by
          have : l[0].Num + (j : Int) = l[0].Num + i' := e1
          omega
        subst e3
        have b1 : beginP (partP l l[0].Num j j' d) = l[j].Begin := by
          unfold beginP
          have h : 0 < (partP l l[0].Num j j' d).L.length := by omega
          rw [List.getElem?_eq_getElem h, partP_at hj 0 h]
          rfl
        have b2 : edgeP (partP l l[0].Num i j d) = l[j - 1].Begin + l[j - 1].Len := by
          unfold edgeP
          rw [sEnd_at (by omega), partP_at (by omega) _ (by omega)]
          simp only [l1, show i + (j - i - 1) = j - 1 by omega]
        have := (hs.2 (j - 1) (by omega)).2
        rw [b1, b2]
        simp only [show j - 1 + 1 = j by omega] at this
        exact this.symm
    · have hM : ¬ Meet (partP l l[0].Num i j d) (partP l l[0].Num i' j' d) := fun h => by
        have := h.2.2
        rw [n1] at this
        replace this : l[0].Num + (i' : Int) ≤ l[0].Num + j := this
        omega
      rw [if_neg hM, if_neg hm, hcut _ (by show (partP l l[0].Num i' j' d).L.length ≤ 60; omega)]
      unfold partP
      simp only [hD]
  · intro h
    refine h fun a ha b hb e => ?_
    rw [partP_at (by omega) a ha, partP_at (by omega) b hb] at e ⊢
    have ha' : a < j - i := by rw [← l1]; exact ha
    have hb' : b < j' - i' := by rw [← l2]; exact hb
    have q1 := num_stream hs (i + a) (by omega)
    have q2 := num_stream hs (i' + b) (by omega)
    rw [q1, q2] at e
    have e' : i' + b = i + a := by omega
    simp only [e']
  · rintro ⟨h1, h2⟩
    rw [n1, n2] at h2
    have : j = l.length := by
      have h3 : (d && decide (j = l.length)) = true := h1
      simp only [Bool.and_eq_true, decide_eq_true_eq] at h3
      exact h3.2
    omega
/-- the part that two parts make -/
def mrg (a b : Nat × Nat) : Nat × Nat := if a.2 < b.2 then (if b.1 ≤ a.2 then min a.1 b.1 else b.1, b.2) else (if a.1 ≤ b.2 then min b.1 a.1 else a.1, a.2)
theorem merge_parts {l : List S_api_Segment} (hs : Strm l) (hl : l.length ≤ 60) (h0 : 0 < l.length) (d : Bool) (a b : Nat × Nat) (ha : a.1 < a.2) (hb : b.1 < b.2) (ha' : a.2 ≤ l.length) (hb' : b.2 ≤ l.length) :
    mergeP (partP l l[0].Num a.1 a.2 d) (partP l l[0].Num b.1 b.2 d) 100 = (partP l l[0].Num (mrg a b).1 (mrg a b).2 d, 0) := by
  unfold mergeP mrg
  have hD : ∀ i j : Nat, (partP l l[0].Num i j d).Done = (d && decide (j = l.length)) := fun _ _ => rfl
  rw [if_pos (by omega), part_next l _ _ _ d (by omega) ha', part_next l _ _ _ d (by omega) hb', hD, hD]
  by_cases h : a.2 < b.2
  · rw [if_pos (by omega), if_pos h, mergeEL_part hs hl h0 d a.1 a.2 b.1 b.2 ha hb (by omega) hb' _ (by
      rw [decide_eq_false (show ¬ a.2 = l.length by omega), Bool.and_false, Bool.false_or])]
  · rw [if_neg (by omega), if_neg h, mergeEL_part hs hl h0 d b.1 b.2 a.1 a.2 hb ha (by omega) ha' _ (by
      by_cases e : a.2 = l.length
      · rw [decide_eq_true e]; cases d <;> simp
      · rw [decide_eq_false e, decide_eq_false (show ¬ b.2 = l.length by omega)]; simp)]
theorem mrg_ok {a b : Nat × Nat} (ha : a.1 < a.2) (hb : b.1 < b.2) : (mrg a b).1 < (mrg a b).2 ∧ (mrg a b).2 = max a.2 b.2 := by
  unfold mrg
  split
  · refine ⟨?_, by simp only; omega⟩
    simp only
    split <;> omega
  · refine ⟨?_, by simp only; omega⟩
    simp only
    split <;> omega
theorem mrg_comm {a b : Nat × Nat} (ha : a.1 < a.2) (hb : b.1 < b.2) : mrg a b = mrg b a := by
  unfold mrg
  by_cases h : a.2 < b.2
  · rw [if_pos h, if_neg (show ¬ b.2 < a.2 by omega)]
  · by_cases h' : b.2 < a.2
    · rw [if_neg h, if_pos h']
    · have e : a.2 = b.2 := by omega
      rw [if_neg h, if_neg h', if_pos (show a.1 ≤ b.2 by omega), if_pos (show b.1 ≤ a.2 by omega), Nat.min_comm, e]
theorem mrg_meet {a b : Nat × Nat} (h1 : a.1 ≤ b.2) (h2 : b.1 ≤ a.2) : mrg a b = (min a.1 b.1, max a.2 b.2) := by
  unfold mrg
  by_cases h : a.2 < b.2
  · rw [if_pos h, if_pos h2, Nat.max_eq_right (by omega)]
  · rw [if_neg h, if_pos h1, Nat.max_eq_left (by omega), Nat.min_comm]
/-- a part of the stream, as the law takes it -/
theorem part_step {l : List S_api_Segment} (hs : Strm l) (hl : l.length ≤ 60) (h0 : 0 < l.length) (d : Bool) (x : S_2_uint8) (q0 : 0 ≤ x.a0_ ∧ x.a0_ ≤ 255) (q1 : 0 ≤ x.a1_ ∧ x.a1_ ≤ 255) : ∃ a : Nat × Nat, a.1 < a.2 ∧ a.2 ≤ l.length ∧ ∀ {R : Type} (k : S_api_Playlist → Option R),
    need ((l.length : Int) ≠ 0) (need ((IntKind.i64.wrap ((l.length : Int) - ((IntKind.i64.wrap x.a0_).tmod (l.length : Int)))) ≠ 0) (
      obind (ref43_Part l ((IntKind.i64.wrap x.a0_).tmod (l.length : Int)) (IntKind.i64.wrap ((IntKind.i64.wrap (((IntKind.i64.wrap x.a0_).tmod (l.length : Int)) + 1)) + ((IntKind.i64.wrap x.a1_).tmod (IntKind.i64.wrap ((l.length : Int) - ((IntKind.i64.wrap x.a0_).tmod (l.length : Int))))))) d) k)) = k (partP l l[0].Num a.1 a.2 d) := by
  obtain ⟨u, hu⟩ : ∃ u : Nat, x.a0_ = u := ⟨x.a0_.toNat, by omega⟩
  obtain ⟨v, hv⟩ : ∃ v : Nat, x.a1_ = v := ⟨x.a1_.toNat, by omega⟩
  have hu' := Nat.mod_lt u h0
  have hv' := Nat.mod_lt v (show 0 < l.length - u % l.length by omega)
  refine ⟨(u % l.length, u % l.length + 1 + v % (l.length - u % l.length)), by simp only; omega, by simp only; omega, fun k => ?_⟩
  rw [hu, hv, w64 (x := (u : Int)) (by omega) (by omega), w64 (x := (v : Int)) (by omega) (by omega), show (u : Int).tmod (l.length : Int) = ((u % l.length : Nat) : Int) from rfl]
  generalize u % l.length = i at hu' hv' ⊢
  rw [w64 (x := (l.length : Int) - (i : Int)) (by omega) (by omega), show (l.length : Int) - (i : Int) = ((l.length - i : Nat) : Int) by omega, show (v : Int).tmod ((l.length - i : Nat) : Int) = ((v % (l.length - i) : Nat) : Int) from rfl]
  generalize v % (l.length - i) = j at hv' ⊢
  rw [need_pos (by omega), need_pos (by omega), w64 (x := (i : Int) + 1) (by omega) (by omega), w64 (by omega) (by omega), show (i : Int) + 1 + (j : Int) = ((i + 1 + j : Nat) : Int) by omega]
  have hz := hs.1 0 h0
  unfold okSeg at hz
  unfold ref43_Part
  rw [decide_eq_false (show ¬ (l.length : Int) = 0 by omega), cond_false, idx_0 h0, need_pos (by omega), Int.toNat_natCast, Int.toNat_natCast, need_pos (by simp; omega), w64 (by omega) (by omega)]
  simp only [obind, Option.bind_some, List.nil_append]
  congr 1
  unfold partP
  congr 2
  rw [decide_eq_decide]
  omega
theorem part_again {l : List S_api_Segment} (hs : Strm l) (hl : l.length ≤ 60) (h0 : 0 < l.length) (d : Bool) (i j : Nat) (hij : i < j) (hj : j ≤ l.length) (k : S_api_Segment → S_api_Playlist → Option Bool) :
    (idx l 0 fun x86 => obind (ref43_Part l (IntKind.i64.wrap ((partP l l[0].Num i j d).First - x86.Num)) (IntKind.i64.wrap ((IntKind.i64.wrap ((partP l l[0].Num i j d).First - x86.Num)) + ((partP l l[0].Num i j d).L.length : Int))) d) (k x86)) = k l[0] (partP l l[0].Num i j d) := by
  rw [idx_0 h0, partP_len _ _ _ _ _ hj]
  have hF : (partP l l[0].Num i j d).First - l[0].Num = (i : Int) := by show l[0].Num + (i : Int) - l[0].Num = i; omega
  have hz := hs.1 0 h0
  unfold okSeg at hz
  rw [hF, w64 (x := (i : Int)) (by omega) (by omega), show (i : Int) + ((j - i : Nat) : Int) = (j : Int) by omega, w64 (x := (j : Int)) (by omega) (by omega)]
  unfold ref43_Part
  rw [decide_eq_false (show ¬ (l.length : Int) = 0 by omega), cond_false, idx_0 h0, need_pos (by omega), Int.toNat_natCast, Int.toNat_natCast, need_pos (by simp; omega), w64 (by omega) (by omega)]
  simp only [obind, Option.bind_some, List.nil_append]
  congr 1
  unfold partP
  congr 2
  rw [decide_eq_decide]
  omega
open Classical in
theorem law3_of (l : List S_api_Segment) (xa xb xc : S_2_uint8) (d : Bool) (wa : (0 ≤ xa.a0_ ∧ xa.a0_ ≤ 255) ∧ (0 ≤ xa.a1_ ∧ xa.a1_ ≤ 255)) (wb : (0 ≤ xb.a0_ ∧ xb.a0_ ≤ 255) ∧ (0 ≤ xb.a1_ ∧ xb.a1_ ≤ 255)) (wc : (0 ≤ xc.a0_ ∧ xc.a0_ ≤ 255) ∧ (0 ≤ xc.a1_ ∧ xc.a1_ ≤ 255)) : ∃ m, law43_PlaylistsMergeInAnyOrder m l xa xb xc d = some true := by
  obtain ⟨n, hsane, hn⟩ : ∃ n, law43_sanity n = some true ∧ 3000 + l.length ≤ n := ⟨3000 + l.length + 40, sane _, by omega⟩
  refine ⟨n, ?_⟩
  unfold law43_PlaylistsMergeInAnyOrder
  rw [hsane]
  by_cases hl : l.length < 1 ∨ 60 < l.length
  · rw [show (decide ((l.length : Int) < 1) || decide (60 < (l.length : Int))) = true by simp only [Bool.or_eq_true, decide_eq_true_eq]; omega]
    rfl
  rw [show (decide ((l.length : Int) < 1) || decide (60 < (l.length : Int))) = false by rw [Bool.eq_false_iff]; intro h; simp only [Bool.or_eq_true, decide_eq_true_eq] at h; omega, cond_false, rstream_eq l (by omega) n (by omega)]
  simp only [obind, Option.bind_some, bindJ_go]
  rcases Classical.em (Strm l) with hs | hs
  rotate_left
  · rw [decide_eq_false (fun h => hs h.1)]
    rfl
  rw [decide_eq_true ⟨hs, by omega⟩, Bool.not_true, cond_false]
  have h0 : 0 < l.length := by omega
  have h60 : l.length ≤ 60 := by omega
  obtain ⟨a, a1, a2, ea⟩ := part_step hs h60 h0 d xa wa.1 wa.2
  obtain ⟨b, b1, b2, eb⟩ := part_step hs h60 h0 d xb wb.1 wb.2
  obtain ⟨c, c1, c2, ec⟩ := part_step hs h60 h0 d xc wc.1 wc.2
  have i0 : ∀ {β : Type} (k : S_2_uint8 → Option β), idx [xa, xb, xc] 0 k = k xa := fun k => rfl
  have i1 : ∀ {β : Type} (k : S_2_uint8 → Option β), idx [xa, xb, xc] 1 k = k xb := fun k => rfl
  have i2 : ∀ {β : Type} (k : S_2_uint8 → Option β), idx [xa, xb, xc] 2 k = k xc := fun k => rfl
  simp only [obind] at ea eb ec
  rw [i0, ea, i1, eb, i2, ec]
  have V := fun (x : Nat × Nat) (h1 : x.1 < x.2) (h2 : x.2 ≤ l.length) => part_valid hs h60 h0 x.1 x.2 d h1 h2
  have M := fun (x y : Nat × Nat) (h1 : x.1 < x.2) (h2 : x.2 ≤ l.length) (h3 : y.1 < y.2) (h4 : y.2 ≤ l.length) =>
    (merge_eq _ _ (V x h1 h2) (V y h3 h4) 100 n (by omega)).trans (congrArg some (merge_parts hs h60 h0 d x y h1 h3 h2 h4))
  have N := fun (x : Nat × Nat) (h1 : x.1 < x.2) (h2 : x.2 ≤ l.length) => (next_eq (V x h1 h2)).trans (congrArg some (part_next l l[0].Num x.1 x.2 d (by omega) h2))
  have S := fun (x : Nat × Nat) (h1 : x.1 < x.2) (h2 : x.2 ≤ l.length) => same_refl (partP l l[0].Num x.1 x.2 d) (by rw [partP_len _ _ _ _ _ h2]; omega) n (by rw [partP_len _ _ _ _ _ h2]; omega)
  obtain ⟨m1, m2⟩ := mrg_ok a1 b1
  have m3 : (mrg a b).2 ≤ l.length := by omega
  have F : ∀ x : Nat × Nat, (partP l l[0].Num x.1 x.2 d).First = l[0].Num + x.1 := fun _ => rfl
  rw [M a b a1 a2 b1 b2, M b a b1 b2 a1 a2, ← mrg_comm a1 b1]
  simp only [Option.bind_some, ne_eq, not_true_eq_false, decide_false, Bool.or_self, cond_false]
  rw [S _ m1 m3, valid_eq _ n (by omega), decide_eq_true (V _ m1 m3), N _ m1 m3, N a a1 a2, N b b1 b2, N c c1 c2]
  simp only [Option.bind_some, bindJ_go, Bool.not_true, cond_false]
  have pa := part_again hs h60 h0 d _ _ m1 m3
  simp only [obind] at pa
  rw [show decide (¬ l[0].Num + ((mrg a b).2 : Int) = max (l[0].Num + (a.2 : Int)) (l[0].Num + (b.2 : Int))) = false from decide_eq_false (by omega), cond_false]
  rw [pa (fun _ r87 => _), S _ m1 m3]
  simp only [Option.bind_some, Bool.not_true, cond_false, F]
  have hno : ∀ {R : Type} (k : Bool → Option R), bindJ (S := Bool) (bindJ (S := Bool) (cond (decide (min (l[0].Num + (a.1 : Int)) (l[0].Num + (b.1 : Int)) < l[0].Num + ((mrg a b).1 : Int)))
      (some (Lp.go (decide (max (l[0].Num + (a.1 : Int)) (l[0].Num + (b.1 : Int)) ≤ min (l[0].Num + (a.2 : Int)) (l[0].Num + (b.2 : Int)))))) (some (Lp.go false))) fun b98 => some (Lp.go b98)) k = k false := by
    intro R k
    by_cases hf : min (l[0].Num + (a.1 : Int)) (l[0].Num + (b.1 : Int)) < l[0].Num + ((mrg a b).1 : Int)
    · rw [decide_eq_true hf, cond_true, bindJ_go, bindJ_go, decide_eq_false]
      intro hg
      have h1 : a.1 ≤ b.2 := by omega
      have h2 : b.1 ≤ a.2 := by omega
      rw [mrg_meet h1 h2] at hf
      simp only at hf
      omega
    · rw [decide_eq_false hf, cond_false, bindJ_go, bindJ_go]
  rw [hno, cond_false]
  by_cases hm : a.1 ≤ b.2 ∧ a.1 ≤ c.2 ∧ b.1 ≤ a.2 ∧ b.1 ≤ c.2 ∧ c.1 ≤ a.2 ∧ c.1 ≤ b.2
  · obtain ⟨q1, q2, q3, q4, q5, q6⟩ := hm
    rw [decide_eq_false (by omega), cond_false, decide_eq_false (by omega), cond_false, decide_eq_false (by omega), cond_false, decide_eq_false (by omega), cond_false, decide_eq_false (by omega), cond_false, decide_eq_false (by omega), cond_false, decide_eq_false (by omega), cond_false, decide_eq_false (by omega), cond_false, decide_eq_false (by omega), cond_false]
    have e1 := mrg_meet q1 q3
    have e2 := mrg_meet q4 q6
    obtain ⟨u1, u2⟩ := mrg_ok b1 c1
    rw [M _ c m1 m3 c1 c2, M b c b1 b2 c1 c2]
    simp only [Option.bind_some]
    rw [M _ a u1 (by omega) a1 a2]
    simp only [Option.bind_some, decide_true, Bool.and_self, cond_true]
    have e3 : mrg (mrg a b) c = mrg (mrg b c) a := by
      rw [e1, e2, mrg_meet (by simp only; omega) (by simp only; omega), mrg_meet (by simp only; omega) (by simp only; omega)]
      simp only [Prod.mk.injEq]
      omega
    obtain ⟨v1, v2⟩ := mrg_ok u1 a1
    rw [e3, S _ v1 (by omega)]
    rfl
  · have step : ∀ (p : Bool) (x : Option Bool), x = some true → (cond p (some true) x) = some true := fun p x h => by cases p <;> simp [h]
    by_cases p1 : l[0].Num + (a.2 : Int) < l[0].Num + (a.1 : Int)
    · rw [decide_eq_true p1, cond_true]
    rw [decide_eq_false p1, cond_false]
    by_cases p2 : l[0].Num + (a.2 : Int) < l[0].Num + (b.1 : Int)
    · rw [decide_eq_true p2, cond_true]
    rw [decide_eq_false p2, cond_false]
    by_cases p3 : l[0].Num + (a.2 : Int) < l[0].Num + (c.1 : Int)
    · rw [decide_eq_true p3, cond_true]
    rw [decide_eq_false p3, cond_false]
    by_cases p4 : l[0].Num + (b.2 : Int) < l[0].Num + (a.1 : Int)
    · rw [decide_eq_true p4, cond_true]
    rw [decide_eq_false p4, cond_false]
    by_cases p5 : l[0].Num + (b.2 : Int) < l[0].Num + (b.1 : Int)
    · rw [decide_eq_true p5, cond_true]
    rw [decide_eq_false p5, cond_false]
    by_cases p6 : l[0].Num + (b.2 : Int) < l[0].Num + (c.1 : Int)
    · rw [decide_eq_true p6, cond_true]
    rw [decide_eq_false p6, cond_false]
    by_cases p7 : l[0].Num + (c.2 : Int) < l[0].Num + (a.1 : Int)
    · rw [decide_eq_true p7, cond_true]
    rw [decide_eq_false p7, cond_false]
    by_cases p8 : l[0].Num + (c.2 : Int) < l[0].Num + (b.1 : Int)
    · rw [decide_eq_true p8, cond_true]
    omega
end Go.Proofs.YtbgpojdmdnkeaaaDoor
namespace Go.Abs
open Go.Sem Go.ChangeShapes Go.RowKit

/-- a law's contract, as the claim's frame wants it -/
theorem Meets.law {P : Program} {f : FuncId} {args : List Value} {H : List HA} (h : Meets P f args H (fun v G => v = .bool true ∧ G = [])) {w : World} (hs : Sats w (fun _ => .no) H) :
    Calls P f args.toArray w fun e w' => e = .returned (.bool true) ∧ Below w.heap.size w w' := by
  refine (h w (fun _ => .no) (fun _ _ => rfl) hs).mono fun e w' ⟨v, G, o', he, ⟨hv, _⟩, _, ht, _⟩ => ?_
  subst hv
  exact ⟨he, ht.os, ht.tape, ht.output, ht.size, fun k hk => (ht.no k hk rfl).2⟩

theorem cells_open {w : World} {a : Option Addr} {len cap es : Nat} {cells : List (List Value)} (hcl : cells.length = len) (h1 : len ≤ cap) (h2 : cap ≤ maxLen) (h3 : a = none → cap = 0) (hes : 0 < es)
    (he : ∀ c ∈ cells, c.length = es) (hc : ∀ x, a = some x → ∀ i c, cells[i]? = some c → ∀ j v, c[j]? = some v → w.cell? (x.add (i * es + j)) = some v) :
    SliceIs w (fun b => (fun _ => Ow.no : Own) b = .no) (.slice a len cap) es cells := by
  refine ⟨a, cap, by rw [hcl], by omega, h2, h3, ?_⟩
  intro i c hi
  have hlen := he c (List.mem_of_getElem? hi)
  cases a with
  | none =>
    have := (List.getElem?_eq_some_iff.1 hi).1
    have := h3 rfl
    omega
  | some x =>
    have e0 : c[0]? = some (c[0]'(by omega)) := List.getElem?_eq_getElem (by omega)
    have h := hc x rfl i c hi 0 _ e0
    have hs0 := World.cell?_spot h
    have hb : x.block < w.heap.size := by
      unfold World.cell? at h
      have e : (x.add (i * es + 0)).block = x.block := by unfold Addr.add; split <;> rfl
      rw [e] at h
      cases hh : w.heap[x.block]? with
      | none => rw [hh] at h; simp at h
      | some o => exact (Array.getElem?_eq_some_iff.1 hh).1
    obtain ⟨b, off, spot⟩ := x
    refine ⟨hlen, b, off, ?_, hb, rfl, ?_⟩
    · cases spot with
      | none => rfl
      | some q =>
        exfalso
        have hi0 : ∀ i c, cells[i]? = some c → i = 0 := by
          intro i c hi
          false_or_by_contra
          have hlen := he c (List.mem_of_getElem? hi)
          have hi00 : cells[0]? = some (cells[0]'(by have := (List.getElem?_eq_some_iff.1 hi).1; omega)) := List.getElem?_eq_getElem _
          have hl0 := he _ (List.mem_of_getElem? hi00)
          have h := hc _ rfl 0 _ hi00 0 _ (List.getElem?_eq_getElem (by omega))
          have := World.cell?_spot h
          simp [Addr.add] at this
        have := hi0 i c hi
        subst this
        simp [Addr.add] at hs0
    · intro j v hj
      have h' := hc _ rfl i c hi j v hj
      have hsp := World.cell?_spot h'
      rw [← h']
      congr 1
      unfold Addr.add at hsp ⊢
      split
      · rename_i h0
        rw [if_pos h0] at hsp
        simp only at hsp
        rw [hsp]
        have : off + i * es + j = off := by omega
        rw [this]
      · rw [Nat.add_assoc]
theorem slice_nil {w : World} {B : Nat → Prop} {es : Nat} : SliceIs w B (.slice none 0 0) es [] := ⟨none, 0, rfl, by simp, by unfold maxLen; omega, fun _ => rfl, fun i c h => by simp at h⟩
end Go.Abs
namespace Go.Abs
open Go.Sem Go.ChangeShapes Go.RowKit
end Go.Abs
namespace Go.Abs
open Go.Sem Go.ChangeShapes Go.RowKit
section
variable {H : Type} {enc : TypeId × Value → H} {P : Program} {w : World} {base : Nat} {sp : Nat → Bool} {held : Bool}
end
end Go.Abs
namespace Go.Abs
open Go.Sem Go.ChangeShapes Go.RowKit
section
variable {H : Type} {enc : TypeId × Value → H} {P : Program} {w : World} {base : Nat} {sp : Nat → Bool} {held : Bool}
def wfI (k : IntKind) (n : Int) : Prop := (Lit.int k n).wf = true
theorem wf8 {n : Int} (h : wfI .u8 n) : 0 ≤ n ∧ n ≤ 255 := by
  simp only [wfI, Lit.wf, Bool.and_eq_true, decide_eq_true_eq] at h; exact h
/-- a type is opened: what is read of it lies in the cells 'F a', and a is well formed -/
def Opens (enc : TypeId × Value → H) (P : Program) (w : World) (base : Nat) (sp : Nat → Bool) (held : Bool) (t : TypeId) {α : Type} (F : α → List Value) (wf : α → Prop) : Prop :=
  ∀ (fuel : Nat) (cs : List Value) (x : DataW H × List MemPlace), DataW.trod enc P w base sp held fuel t cs = some x → ∃ a, cs = F a ∧ wf a
theorem opn_int {t : TypeId} {k : IntKind} (ht : P.underlying t = some (.int k)) : Opens enc P w base sp held t (eInt k) (wfI k) := by
  intro fuel cs x h
  obtain ⟨n, hc, _, hw⟩ := DataW.trod_int ht h
  exact ⟨n, hc, hw⟩
/-- the elements of a slice that is opened -/
theorem opn_slice {t e : TypeId} {es : Nat} {α : Type} {F : α → List Value} {wf : α → Prop} (ht : P.underlying t = some (.slice e)) (hce : P.cellsOf e = es) (hes : 0 < es) (hF : ∀ a, (F a).length = es)
    (ho : Opens enc P w base sp held e F wf) {fuel : Nat} {cs : List Value} {x : DataW H × List MemPlace} (h : DataW.trod enc P w base sp held fuel t cs = some x) :
    ∃ (v : Value) (l : List α), cs = [v] ∧ (∀ a ∈ l, wf a) ∧ SliceIs w (fun b => (fun _ => Ow.no : Own) b = .no) v es (l.map F) ∧
      ((x = (.nil, []) ∧ l = []) ∨ ∃ ys rs ps, x = (.slice ys rs, ps) ∧ ys.length = l.length) := by
  rcases DataW.trod_slice ht h with ⟨rfl, hx⟩ | ⟨a, len, cap, elems, rest, m, _, rfl, rfl, hb, hl, hm, hlen, hel', hsp, hns⟩
  · exact ⟨_, [], rfl, by simp, slice_nil, .inl ⟨hx, rfl⟩⟩
  · have each : ∀ i, i < len → ∃ d : α, wf d ∧ ∀ j v, (F d)[j]? = some v → w.cell? (a.add (i * es + j)) = some v := by
      intro i hi
      have h1 := hel' i hi
      rw [List.getElem?_eq_getElem (by omega), hce, Option.bind_eq_some_iff] at h1
      obtain ⟨cs', hcs, hy⟩ := h1
      obtain ⟨d, rfl, hd⟩ := ho _ _ _ hy
      refine ⟨d, hd, fun j v hj => ?_⟩
      have hjlt : j < es := by have := (List.getElem?_eq_some_iff.1 hj).1; rw [hF] at this; omega
      have := (World.cells?_some hcs).2.2 j hjlt
      rw [hj] at this
      rw [← this]
      congr 1
      unfold Addr.add
      by_cases e1 : i * es = 0
      · rw [if_pos e1]; simp [e1]
      · rw [if_neg e1, if_neg (by omega)]
        by_cases e2 : j = 0
        · simp [e2]
        · rw [if_neg e2]; simp [Nat.add_assoc]
    have hch : ∃ l : List α, l.length = len ∧ ∀ i d, l[i]? = some d → wf d ∧ ∀ j v, (F d)[j]? = some v → w.cell? (a.add (i * es + j)) = some v := by
      clear hel' hlen hsp hns hl h
      induction len with
      | zero => exact ⟨[], rfl, by simp⟩
      | succ k ih =>
        obtain ⟨l, hl1, hl2⟩ := ih (fun i hi => each i (by omega))
        obtain ⟨d, hd1, hd2⟩ := each k (by omega)
        refine ⟨l ++ [d], by simp [hl1], fun i d' hi => ?_⟩
        by_cases hik : i < k
        · rw [List.getElem?_append_left (by omega)] at hi; exact hl2 i d' hi
        · rw [List.getElem?_append_right (by omega)] at hi
          have : i = k := by have := (List.getElem?_eq_some_iff.1 hi).1; simp at this; omega
          subst this
          rw [hl1, Nat.sub_self] at hi
          simp at hi
          subst hi
          exact ⟨hd1, hd2⟩
    obtain ⟨l, hl1, hl2⟩ := hch
    refine ⟨_, l, rfl, ?_, ?_, .inr ⟨_, _, _, rfl, by simp [hlen, hl1]⟩⟩
    · intro d hd
      obtain ⟨i, hi⟩ := List.getElem?_of_mem hd
      exact (hl2 i d hi).1
    · refine cells_open (by rw [List.length_map, hl1]) hl hm (by simp) hes ?_ ?_
      · intro c hc
        obtain ⟨d, hd, rfl⟩ := List.mem_map.1 hc
        exact hF d
      · intro x hx i c hi j v hj
        cases hx
        simp only [List.getElem?_map, Option.map_eq_some_iff] at hi
        obtain ⟨d, hd, rfl⟩ := hi
        exact (hl2 i d hd).2 j v hj
end
end Go.Abs
namespace Go.Abs
open Go.Sem Go.ChangeShapes Go.RowKit
section
variable {H : Type} {enc : TypeId × Value → H} {P : Program} {w : World} {base : Nat} {sp : Nat → Bool} {held : Bool}
def noO : Own := fun _ => .no
theorem slice_len {t e : TypeId} (ht : P.underlying t = some (.slice e)) {fuel : Nat} {cs : List Value} {x : DataW H × List MemPlace} (h : DataW.trod enc P w base sp held fuel t cs = some x) {N : Nat}
    (hx : (x = (.nil, []) ∧ N = 0) ∨ ∃ ys rs ps, x = (.slice ys rs, ps) ∧ ys.length = N) : N ≤ maxLen := by
  rcases DataW.trod_slice ht h with ⟨_, h0⟩ | ⟨a, len, cap, elems, rest, m, _, _, h0, _, hl, hm, hlen, _⟩
  · rcases hx with ⟨_, rfl⟩ | ⟨ys, rs, ps, h1, _⟩
    · exact Nat.zero_le _
    · rw [h0] at h1; cases h1
  · rcases hx with ⟨h1, _⟩ | ⟨ys, rs, ps, h1, h2⟩
    · rw [h0] at h1; cases h1
    · rw [h0] at h1; cases h1; rw [List.length_map] at h2; omega
theorem opn_leafL {t e : TypeId} {es : Nat} {α : Type} {F : α → List Value} {wf : α → Prop} (ht : P.underlying t = some (.slice e)) (hce : P.cellsOf e = es) (hes : 0 < es) (hF : ∀ a, (F a).length = es)
    (ho : Opens enc P w base sp held e F wf) {fuel : Nat} {cs : List Value} {x : DataW H × List MemPlace} (h : DataW.trod enc P w base sp held fuel t cs = some x) :
    ∃ (v : Value) (l : List α), cs = [v] ∧ (l.length ≤ maxLen ∧ ∀ a ∈ l, wf a) ∧ ∀ k, (ro v es (l.map F)).p w noO k := by
  obtain ⟨v, l, h1, h2, h3, h4⟩ := opn_slice ht hce hes hF ho h
  refine ⟨v, l, h1, ⟨slice_len ht h ?_, h2⟩, fun _ => h3⟩
  rcases h4 with ⟨h5, rfl⟩ | h5
  · exact .inl ⟨h5, rfl⟩
  · exact .inr h5
end
end Go.Abs
namespace Go.Abs
open Go.Sem Go.ChangeShapes Go.RowKit
theorem laid_at {P : Program} {w : World} {n : String} {d : DataW Unit} : ∀ {l : List (String × DataW Unit)} {ps : List MemPlace}, DataW.LaidVars P w l ps → (n, d) ∈ l →
    ∃ g t cs fuel p, P.globalNamed n = some g ∧ (P.globals[g]?).map (·.type) = some t ∧ w.var? P n = some cs ∧ DataW.trod (fun _ => ()) P w 0 (fun _ => true) false fuel t cs.toList = some (d, p)
  | [], _, _, h => by simp at h
  | (m, e) :: r, ps, ⟨g, t, cs, fuel, p, q, h1, h2, h3, h4, h5, _⟩, h => by
    rcases List.mem_cons.1 h with h | h
    · cases h; exact ⟨g, t, cs, fuel, p, h1, h2, h3, h4⟩
    · exact laid_at h5 h
theorem laid_tab {P : Program} {w : World} {l : List (String × DataW Unit)} {name : String} {k : IntKind} {zs : List Int} {g t e : Nat} {n : Nat} (h : laidMet P l w) (hm : (name, Lib.tabData k zs) ∈ l)
    (hg : P.globalNamed name = some g) (hty : (P.globals[g]?).map (·.type) = some t) (ht : P.underlying t = some (.array n e)) (he : P.underlying e = some (.int k)) (hce : P.cellsOf e = 1) (hct : P.cellsOf t = n) : Lib.TabIs P w name k zs := by
  obtain ⟨ps, hl, _⟩ := h
  obtain ⟨g', t', cs, fuel, p, hg', ht', hvar, hd⟩ := laid_at hl hm
  obtain rfl := Option.some.inj (hg.symm.trans hg')
  obtain rfl := Option.some.inj (hty.symm.trans ht')
  unfold Lib.TabIs
  rw [hvar, ← Lib.cells_of_tab ht he hce hct hd]
theorem laid_iface {P : Program} {w : World} {l : List (String × DataW Unit)} {name s : String} {d : DataW Unit} {g t : Nat} {ms : Array (String × TypeId)} (h : laidMet P l w) (hm : (name, DataW.iface s d) ∈ l)
    (hg : P.globalNamed name = some g) (hty : (P.globals[g]?).map (·.type) = some t) (ht : P.underlying t = some (.interface ms)) : ∃ u v, w.cell? ⟨g, 0, none⟩ = some (.iface u v) := by
  obtain ⟨ps, hl, _⟩ := h
  obtain ⟨g', t', cs, fuel, p, hg', ht', hvar, hd⟩ := laid_at hl hm
  obtain rfl := Option.some.inj (hg.symm.trans hg')
  obtain rfl := Option.some.inj (hty.symm.trans ht')
  have hc : ∃ u v, cs.toList = [.iface u v] := by
    cases fuel with
    | zero => simp [DataW.trod] at hd
    | succ fuel =>
      unfold DataW.trod at hd
      rw [ht] at hd
      split at hd <;> simp_all
  obtain ⟨u, v, hc⟩ := hc
  refine ⟨u, v, ?_⟩
  have := World.var?_cell hg hvar 0
  rw [this, ← Array.getElem?_toList, hc]; rfl
section
variable {H : Type} {enc : TypeId × Value → H} {P : Program} {w : World} {base : Nat} {sp : Nat → Bool} {held : Bool}
theorem opn_arr {t e : TypeId} {n : Nat} {k : IntKind} (ht : P.underlying t = some (.array n e)) (he : P.underlying e = some (.int k)) (hce : P.cellsOf e = 1) (hct : P.cellsOf t = n) {fuel : Nat} {cs : List Value} {x : DataW H × List MemPlace}
    (h : DataW.trod enc P w base sp held fuel t cs = some x) : ∃ l : List Int, l.length = n ∧ cs = l.map (Value.int k) ∧ ∀ a ∈ l, wfI k a := by
  obtain ⟨xs, m, _, _, hl, hx, hf⟩ := DataW.trod_array ht h
  rw [hct] at hl
  have key : ∀ i, i < n → ∃ a, cs[i]? = some (.int k a) ∧ wfI k a := by
    intro i hi
    have h1 := hf i hi
    rw [List.getElem?_eq_getElem (show i < xs.length by omega)] at h1
    obtain ⟨a, hc, _, hw⟩ := DataW.trod_int he h1
    refine ⟨a, ?_, hw⟩
    have := congrArg (·[0]?) hc
    simpa [hce, List.getElem?_take, List.getElem?_drop] using this
  clear hf hx
  have all : ∀ (n : Nat) (cs : List Value), cs.length = n → (∀ i, i < n → ∃ a, cs[i]? = some (.int k a) ∧ wfI k a) → ∃ l : List Int, l.length = n ∧ cs = l.map (Value.int k) ∧ ∀ a ∈ l, wfI k a := by
    intro n
    induction n with
    | zero => intro cs hl _; exact ⟨[], rfl, by simpa using hl, by simp⟩
    | succ n ih =>
      intro cs hl key
      match cs, hl with
      | c :: r, hl =>
        obtain ⟨l, e1, e2, e3⟩ := ih r (by simpa using hl) (fun i hi => by simpa using key (i + 1) (by omega))
        obtain ⟨a, e4, e5⟩ := key 0 (by omega)
        refine ⟨a :: l, by simp [e1], ?_, ?_⟩
        · simp at e4; simp [e4, ← e2]
        · intro b hb
          rcases List.mem_cons.1 hb with rfl | hb
          · exact e5
          · exact e3 b hb
  exact all n cs hl key
end
end Go.Abs
namespace Go.Proofs.YtbgpojdmdnkeaaaDoor
open Go.Abs Go.ChangeShapes Go.RowKit
set_option maxRecDepth 100000
set_option linter.unusedVariables false
def S_api_Digest.wf (x : S_api_Digest) : Prop := ∀ a ∈ x.toL, wfI .u8 a
theorem S_api_Digest.opn {H : Type} {enc : TypeId × Value → H} {w : World} {base : Nat} {sp : Nat → Bool} {held : Bool} : Opens enc Tryd.prog w base sp held 38 S_api_Digest.enc S_api_Digest.wf := by
  intro fuel cs x h
  obtain ⟨l, hl, e, hw⟩ := opn_arr Tryd.underlying38 Tryd.underlying5 (by kernel_rfl) (by kernel_rfl) h
  match l, hl with
  | [y0, y1, y2, y3, y4, y5, y6, y7, y8, y9, y10, y11, y12, y13, y14, y15], _ => exact ⟨⟨y0, y1, y2, y3, y4, y5, y6, y7, y8, y9, y10, y11, y12, y13, y14, y15⟩, e, hw⟩
def S_api_Segment.wf (x : S_api_Segment) : Prop := wfI .i64 x.Num ∧ wfI .i64 x.Begin ∧ wfI .i64 x.Len ∧ S_api_Digest.wf x.Body ∧ wfI .i64 x.Size
theorem S_api_Segment.opn {H : Type} {enc : TypeId × Value → H} {w : World} {base : Nat} {sp : Nat → Bool} {held : Bool} : Opens enc Tryd.prog w base sp held 40 S_api_Segment.enc S_api_Segment.wf := by
  intro fuel cs x h
  obtain ⟨xs, n, _, _, hl, hlen, hf⟩ := DataW.trod_struct Tryd.underlying40 h
  have hl' : cs.length = 20 := hl.trans (by kernel_rfl)
  have hx : xs.length = 5 := hlen
  have k3 : Tryd.prog.cellsOf 3 = 1 := by kernel_rfl
  have k38 : Tryd.prog.cellsOf 38 = 16 := by kernel_rfl
  match cs, hl' with
  | [c0, c1, c2, c3, c4, c5, c6, c7, c8, c9, c10, c11, c12, c13, c14, c15, c16, c17, c18, c19], _ =>
    have f0 := hf 0 _ rfl
    rw [List.getElem?_eq_getElem (show 0 < xs.length by omega)] at f0
    obtain ⟨a0, e0, w0⟩ := (opn_int Tryd.underlying3) _ _ _ f0
    simp [k3, eInt, eStr, eBool] at e0
    have f1 := hf 1 _ rfl
    rw [List.getElem?_eq_getElem (show 1 < xs.length by omega)] at f1
    obtain ⟨a1, e1, w1⟩ := (opn_int Tryd.underlying3) _ _ _ f1
    simp [k3, eInt, eStr, eBool] at e1
    have f2 := hf 2 _ rfl
    rw [List.getElem?_eq_getElem (show 2 < xs.length by omega)] at f2
    obtain ⟨a2, e2, w2⟩ := (opn_int Tryd.underlying3) _ _ _ f2
    simp [k3, eInt, eStr, eBool] at e2
    have f3 := hf 3 _ rfl
    rw [List.getElem?_eq_getElem (show 3 < xs.length by omega)] at f3
    obtain ⟨a3, e3, w3⟩ := S_api_Digest.opn _ _ _ f3
    simp [k38, S_api_Digest.enc] at e3
    have f4 := hf 4 _ rfl
    rw [List.getElem?_eq_getElem (show 4 < xs.length by omega)] at f4
    obtain ⟨a4, e4, w4⟩ := (opn_int Tryd.underlying3) _ _ _ f4
    simp [k3, eInt, eStr, eBool] at e4
    exact ⟨⟨a0, a1, a2, a3, a4⟩, by simp [S_api_Segment.enc, e0, e1, e2, e3, e4], w0, w1, w2, w3, w4⟩
def S_2_uint8.wf (x : S_2_uint8) : Prop := ∀ a ∈ x.toL, wfI .u8 a
theorem S_2_uint8.opn {H : Type} {enc : TypeId × Value → H} {w : World} {base : Nat} {sp : Nat → Bool} {held : Bool} : Opens enc Tryd.prog w base sp held 23 S_2_uint8.enc S_2_uint8.wf := by
  intro fuel cs x h
  obtain ⟨l, hl, e, hw⟩ := opn_arr Tryd.underlying23 Tryd.underlying5 (by kernel_rfl) (by kernel_rfl) h
  match l, hl with
  | [y0, y1], _ => exact ⟨⟨y0, y1⟩, e, hw⟩
theorem okWide_arr {P : Program} {w : World} {r : Reach} {base : Nat} {t : TypeId} {v : Value} {n : Nat} {e : TypeId} (hu : P.underlying t = some (.array n e)) (h : Value.okWide P w r base t v) : ∃ cs, v = .agg cs ∧ True := by
  unfold Value.okWide at h
  rw [hu] at h
  obtain ⟨cs, rfl, _⟩ := h
  exact ⟨cs, rfl, trivial⟩
end Go.Proofs.YtbgpojdmdnkeaaaDoor
namespace Go.Proofs.YtbgpojdmdnkeaaaDoor
open Go.Abs
theorem law3 (l : List S_api_Segment) (a b c : S_2_uint8) (d : Bool) (_ : l.length ≤ maxLen ∧ ∀ a ∈ l, S_api_Segment.wf a) (wa : S_2_uint8.wf a) (wb : S_2_uint8.wf b) (wc : S_2_uint8.wf c) (_ : True) : ∃ m, law43_PlaylistsMergeInAnyOrder m l a b c d = some true :=
  law3_of l a b c d ⟨wf8 (wa _ (by simp [S_2_uint8.toL])), wf8 (wa _ (by simp [S_2_uint8.toL]))⟩ ⟨wf8 (wb _ (by simp [S_2_uint8.toL])), wf8 (wb _ (by simp [S_2_uint8.toL]))⟩ ⟨wf8 (wc _ (by simp [S_2_uint8.toL])), wf8 (wc _ (by simp [S_2_uint8.toL]))⟩
end Go.Proofs.YtbgpojdmdnkeaaaDoor
namespace Go.Proofs.YtbgpojdmdnkeaaaDoor
open Go.Abs
/-- so many blocks has the settled world -/
noncomputable def low : Nat := (World.holding Tryd.prog default ⟨#[], #[], []⟩).heap.size
/-- the settled world with the laid variables -/
noncomputable def laidWorld (os : Os) : World :=
  let w0 := World.holding Tryd.prog os ⟨#[.cells #[.string ⟨#[105, 110, 118, 97, 108, 105, 100, 32, 115, 121, 110, 116, 97, 120]⟩] 140, .cells #[.string ⟨#[118, 97, 108, 117, 101, 32, 111, 117, 116, 32, 111, 102, 32, 114, 97, 110, 103, 101]⟩] 140], #[], []⟩
  { w0 with heap := (((((((w0.heap.modify 3 fun
      | .cells _ t frozen => .cells (([1, 10, 100, 1000, 10000, 100000, 1000000, 10000000, 100000000, 1000000000, 10000000000, 100000000000, 1000000000000, 10000000000000, 100000000000000, 1000000000000000, 10000000000000000, 100000000000000000, 1000000000000000000, 10000000000000000000] : List Int).map (Value.int .u64)).toArray t frozen
      | o => o).modify 4 fun
      | .cells _ t frozen => .cells (Go.Pinned.utf8FirstZ.map fun (n : Nat) => Value.int .u8 (n : Int)).toArray t frozen
      | o => o).modify 5 fun
      | .cells _ t frozen => .cells (([128, 191, 160, 191, 128, 159, 144, 191, 128, 143, 0, 0, 0, 0, 0, 0, 0, 0, 0, 0, 0, 0, 0, 0, 0, 0, 0, 0, 0, 0, 0, 0] : List Int).map (Value.int .u8)).toArray t frozen
      | o => o).modify 6 fun
      | .cells _ t frozen => .cells (([0, 1, 28, 2, 29, 14, 24, 3, 30, 22, 20, 15, 25, 17, 4, 8, 31, 27, 13, 23, 21, 19, 16, 7, 26, 12, 18, 6, 11, 5, 10, 9] : List Int).map (Value.int .u8)).toArray t frozen
      | o => o).modify 7 fun
      | .cells _ t frozen => .cells (([0, 1, 56, 2, 57, 49, 28, 3, 61, 58, 42, 50, 38, 29, 17, 4, 62, 47, 59, 36, 45, 43, 51, 22, 53, 39, 33, 30, 24, 18, 12, 5, 63, 55, 48, 27, 60, 41, 37, 16, 46, 35, 44, 21, 52, 32, 23, 11, 54, 26, 40, 15, 34, 20, 31, 10, 25, 14, 19, 9, 13, 8, 7, 6] : List Int).map (Value.int .u8)).toArray t frozen
      | o => o).modify 1 fun
      | .cells _ t frozen => .cells #[.iface 138 (.pointer (some ⟨low, 0, none⟩))] t frozen
      | o => o).modify 2 fun
      | .cells _ t frozen => .cells #[.iface 138 (.pointer (some ⟨low + 1, 0, none⟩))] t frozen
      | o => o) }
def laidL : List (String × DataW Unit) := [("math/bits.deBruijn32tab", Rows.laid_math_bits_deBruijn32tab), ("math/bits.deBruijn64tab", Rows.laid_math_bits_deBruijn64tab), ("internal/strconv.uint64pow10", Rows.laid_internal_strconv_uint64pow10), ("unicode/utf8.acceptRanges", Rows.laid_unicode_utf8_acceptRanges), ("strconv.ErrRange", Rows.laid_strconv_ErrRange), ("strconv.ErrSyntax", Rows.laid_strconv_ErrSyntax), ("unicode/utf8.first", Rows.laid_unicode_utf8_first)]
theorem laidWorld_met (os : Os) (args : Array Value) : laidMet Tryd.prog laidL ((laidWorld os).forCall (fun _ _ => 0) ⟨#[], args, []⟩).memory :=
  laidMet_of_run' 8 (by kernel_rfl) (by kernel_rfl)
theorem gPow : Tryd.prog.globalNamed "internal/strconv.uint64pow10" = some 3 := by kernel_rfl
theorem globIs {W : World} (h : laidMet Tryd.prog laidL W) (hs : W.ShapedOpen Tryd.prog) : GlobIs Tryd.prog 8 W where
  maxLen := let ⟨m, hm⟩ := Tryd.laysM146.s1_3 W hs; ⟨0, m, gMax, by decide, hm⟩
  errSyntax := let ⟨u, v, hc⟩ := laid_iface (s := "*errors.errorString") (d := .ptr (.agg [.lit (.string [105, 110, 118, 97, 108, 105, 100, 32, 115, 121, 110, 116, 97, 120])])) h (by simp [laidL, Rows.laid_strconv_ErrSyntax]) gSyn (t := 87) (by kernel_rfl) Tryd.underlying87; ⟨1, u, v, gSyn, by decide, hc⟩
  errRange := let ⟨u, v, hc⟩ := laid_iface (s := "*errors.errorString") (d := .ptr (.agg [.lit (.string [118, 97, 108, 117, 101, 32, 111, 117, 116, 32, 111, 102, 32, 114, 97, 110, 103, 101])])) h (by simp [laidL, Rows.laid_strconv_ErrRange]) gRng (t := 87) (by kernel_rfl) Tryd.underlying87; ⟨2, u, v, gRng, by decide, hc⟩
  pow10 := ⟨3, gPow, by decide, laid_tab h (List.mem_cons_of_mem _ (List.mem_cons_of_mem _ (List.mem_cons.2 (.inl (by kernel_rfl))))) gPow (t := 127) (by kernel_rfl) Tryd.underlying127 Tryd.underlying112 (by kernel_rfl) (by kernel_rfl)⟩
theorem laid_size {W : World} (h : laidMet Tryd.prog laidL W) : 8 ≤ W.heap.size := by
  obtain ⟨ps, hl, _⟩ := h
  obtain ⟨g, t, cs, fuel, p, e1, _, e3, _⟩ := laid_at (n := "math/bits.deBruijn64tab") hl (List.mem_cons_of_mem _ (List.mem_cons_self ..))
  have eg : Tryd.prog.globalNamed "math/bits.deBruijn64tab" = some 7 := by kernel_rfl
  obtain rfl := Option.some.inj (eg.symm.trans e1)
  unfold World.var? at e3
  rw [eg] at e3
  simp only [Option.bind_some] at e3
  by_cases h : 7 < W.heap.size
  · omega
  · rw [Array.getElem?_eq_none (by omega)] at e3; simp at e3
theorem globP {W : World} (h : laidMet Tryd.prog laidL W) (hs : W.ShapedOpen Tryd.prog) (k : Nat) : globA.p W noO k := ⟨laid_size h, fun _ _ => rfl, globIs h hs⟩
end Go.Proofs.YtbgpojdmdnkeaaaDoor
