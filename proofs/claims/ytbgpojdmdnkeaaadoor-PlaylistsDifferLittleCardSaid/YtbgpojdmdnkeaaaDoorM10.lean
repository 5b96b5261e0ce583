/-
  Texts that stand side by side: Pk, AbsEnd, AbsEnd2, AbsEnd3, AbsEnd4, AbsEnd5, AbsLaid, Opn, P6, LaidD.
-/
import Derived.Test.YtbgpojdmdnkeaaaDoorM8
import Derived.Test.YtbgpojdmdnkeaaaDoorW6
import Derived.Test.YtbgpojdmdnkeaaaDoorM0
import Derived.WalkKit
import Derived.ProofKit
import Derived.OpenShut
import Derived.ShutString
import Derived.ChangeOld
import Derived.Below
import Derived.SliceStrings
import Derived.Test.YtbgpojdmdnkeaaaDoorM1
import Derived.ChangeArms
import Derived.Test.YtbgpojdmdnkeaaaDoorM2
import Derived.LaidHandle
import Derived.Deep.DeepHandedRow
import Derived.Test.YtbgpojdmdnkeaaaDoorFe
import Derived.Test.YtbgpojdmdnkeaaaDoorRows
import Derived.Test.YtbgpojdmdnkeaaaDoorChecked
namespace Go.Proofs.YtbgpojdmdnkeaaaDoor
open Go.Abs
set_option linter.unusedSimpArgs false
set_option linter.unusedVariables false
theorem min_fold {R : Type} (step : Int × Int → Option (Lp (Int × Int) (Lp Int R))) (l : List Int) (hl : l.length ≤ 1000000) (h1 : ∀ (m : Int) (i : Nat) (h : i < l.length), step (m, (i : Int)) = some (.go (min m l[i], ((i + 1 : Nat) : Int)))) (h2 : ∀ m, step (m, (l.length : Int)) = some (.stop (.go m))) (m : Int) (n : Nat) (hn : l.length < n) :
    ∃ r, iter step n (m, 0) = some (.go r) ∧ r ≤ m ∧ (∀ x ∈ l, r ≤ x) ∧ (r = m ∨ r ∈ l) := by
  obtain ⟨r, e, q, rfl, a, b, c⟩ := iter_inv (step := step) (fun s => ∃ (i : Nat) (r : Int), s = (r, (i : Int)) ∧ i ≤ l.length ∧ r ≤ m ∧ (∀ j (h : j < l.length), j < i → r ≤ l[j]) ∧ (r = m ∨ r ∈ l)) (fun s => l.length - s.2.toNat) (fun r => ∃ q, r = .go q ∧ q ≤ m ∧ (∀ x ∈ l, q ≤ x) ∧ (q = m ∨ q ∈ l)) (by
    rintro s ⟨i, r, rfl, hi, hm, hj, hr⟩
    by_cases hlt : i < l.length
    · refine .inl ⟨_, h1 r i hlt, ⟨i + 1, _, rfl, by omega, by omega, fun j a b => ?_, ?_⟩, by simp; omega⟩
      · by_cases ej : j = i
        · subst ej; omega
        · have := hj j a (by omega); omega
      · by_cases h : r ≤ l[i]
        · rw [Int.min_eq_left h]; exact hr
        · rw [Int.min_eq_right (by omega)]; exact .inr (List.getElem_mem _)
    · obtain rfl : i = l.length := by omega
      exact .inr ⟨_, h2 r, r, rfl, hm, fun x hx => by obtain ⟨j, a, rfl⟩ := List.getElem_of_mem hx; exact hj j a a, hr⟩) n (m, 0) ⟨0, m, rfl, by omega, by omega, fun j a b => by omega, .inl rfl⟩ (by simpa using hn)
  exact ⟨q, e, a, b, c⟩
theorem short_loop (l : List S_api_Segment) (hs : Strm l) (hl : l.length ≤ 60) (n : Nat) (hn : 60 < n) :
    ∃ r, iter (law43_PlaylistsDifferLittle_L3 l) n (60000, 0) = some (.go r) ∧ 1 ≤ r ∧ r ≤ 60000 ∧ ∀ i (h : i < l.length), r ≤ l[i].Len := by
  obtain ⟨r, e, a, b, c⟩ := min_fold (law43_PlaylistsDifferLittle_L3 l) (l.map (·.Len)) (by simp; omega) (fun m j h => by
    unfold law43_PlaylistsDifferLittle_L3
    simp only [List.length_map] at h
    simp only
    rw [decide_eq_true (by omega), cond_true, idx_get' h, w64 (by omega) (by omega)]; simp) (fun m => by unfold law43_PlaylistsDifferLittle_L3; simp) 60000 n (by simp; omega)
  refine ⟨r, e, ?_, a, fun i h => b _ (List.mem_map.2 ⟨_, List.getElem_mem h, rfl⟩)⟩
  rcases c with rfl | c
  · omega
  · obtain ⟨s, h1, rfl⟩ := List.mem_map.1 c
    obtain ⟨i, h2, rfl⟩ := List.getElem_of_mem h1
    have := hs.1 i h2
    unfold okSeg at this
    omega
theorem sEnd_far {l : List S_api_Segment} (hs : Strm l) {sh : Int} (hsh : ∀ i (h : i < l.length), sh ≤ l[i].Len) (m : Nat) : ∀ k, m + k < l.length → sEnd l m + k * sh ≤ sEnd l (m + k)
  | 0, h => by simp
  | k + 1, h => by
    have h1 := sEnd_far hs hsh m k (by omega)
    have h2 := sEnd_next hs (m := m + k) (by omega)
    have h3 := hsh (m + k + 1) (by omega)
    rw [show m + (k + 1) = m + k + 1 by omega, h2]
    have : ((k + 1 : Nat) : Int) * sh = k * sh + sh := by rw [show ((k + 1 : Nat) : Int) = (k : Int) + 1 by omega, Int.add_mul, Int.one_mul]
    omega
theorem VP_seen {l : List S_api_Segment} (hs : Strm l) (hl : l.length ≤ 60) (h0 : 0 < l.length) (a : List Int) (t : Int) : VP (seenP l a t) := by
  have hk := hs.1 0 h0
  unfold okSeg at hk
  have hf : (seenP l a t).First = l[0].Num := by unfold seenP; rw [List.getElem?_eq_getElem h0]; rfl
  have hL : (seenP l a t).L = l.take (cnt a t) := rfl
  refine ⟨by rw [hf]; omega, by rw [hf]; omega, by rw [hL]; simp; omega, fun h => ?_, ?_, ?_⟩
  · rw [hf]; simp only [hL, List.getElem_take]
  · intro i h
    simp only [hL, List.getElem_take]
    exact hs.1 i (by rw [hL] at h; simp at h; omega)
  · intro i h
    simp only [hL, List.getElem_take]
    exact hs.2 i (by rw [hL] at h; simp at h; omega)
theorem num_stream {l : List S_api_Segment} (hs : Strm l) : ∀ i (h : i < l.length), l[i].Num = (l[0]'(by omega)).Num + i
  | 0, h => by simp
  | i + 1, h => by
    have := num_stream hs i (by omega)
    have := (hs.2 i h).1
    omega
/-- two beginnings of one stream, the first not the longer one -/
theorem merge_part (l : List S_api_Segment) (hs : Strm l) (hl : l.length ≤ 60) (h0 : 0 < l.length) (c d : Nat) (hcd : c ≤ d) (hd : d ≤ l.length) : mergeEL ⟨l[0].Num, l.take c, false⟩ ⟨l[0].Num, l.take d, false⟩ false 100 = (⟨l[0].Num, l.take d, false⟩, 0) := by
  have hcut : cutP ⟨l[0].Num, l.take d, false⟩ 100 = ⟨l[0].Num, l.take d, false⟩ := by
    unfold cutP
    have : ((l.take d).length : Int) ≤ 60 := by simp; omega
    rw [show max (0 : Int) (((⟨l[0].Num, l.take d, false⟩ : S_api_Playlist).L.length : Int) - 100) = 0 by show max (0 : Int) (((l.take d).length : Int) - 100) = 0; omega]
    simp
  unfold mergeEL
  rw [if_neg (fun h => by cases h.1), if_neg]
  · by_cases hm : Meet ⟨l[0].Num, l.take c, false⟩ ⟨l[0].Num, l.take d, false⟩
    · rw [if_pos hm]
      have hc := hm.1
      rw [if_neg]
      · unfold joinEL
        simp only [Int.sub_self, Int.max_self]
        show (cutP ⟨l[0].Num - 0, l.take d, false⟩ 100, 0) = _
        rw [Int.sub_zero, hcut]
      · rintro ⟨h, _⟩
        unfold nextP at h
        simp only at h hc
        omega
    · rw [if_neg hm, hcut]
  · intro h
    refine h fun i hi j hj e => ?_
    simp only [List.getElem_take] at e ⊢
    simp only [List.length_take] at hi hj
    rw [num_stream hs i (by omega), num_stream hs j (by omega)] at e
    have : i = j := by omega
    subst this
    rfl
theorem seen_form {l : List S_api_Segment} (h0 : 0 < l.length) (a : List Int) (t : Int) : seenP l a t = ⟨l[0].Num, l.take (cnt a t), false⟩ := by
  unfold seenP; rw [List.getElem?_eq_getElem h0]; rfl
theorem differ_inner (l : List S_api_Segment) (hs : Strm l) (hl : l.length ≤ 60) (h0 : 0 < l.length) (parents d : List Int) (delays : List (List Int)) (r9 : List (List Int) × Int) (hT : Tree l.length parents delays) (hS : Spr l parents delays r9.1) (hd : d.length = parents.length) (hD : Dep parents d parents.length)
    (hop sh t : Int) (hhop : ∀ k, 1 ≤ k → k < parents.length → ∀ x ∈ gl delays k, x ≤ hop) (hh0 : 0 ≤ hop) (hh1 : hop ≤ 1073741824) (hg0 : 1 ≤ sh) (hg1 : sh ≤ 60000) (hsh : ∀ i (h : i < l.length), sh ≤ l[i].Len) (n : Nat) (hn : 1000 < n) (i : Nat) (hi : i < parents.length) :
    iter (law43_PlaylistsDifferLittle_L5 n l t r9 hop sh d (i : Int)) n 0 = some (.go ()) := by
  obtain ⟨hp1, hp2, hp3, hT⟩ := hT
  have hT2 : ∀ k, 1 ≤ k → k < parents.length → 0 ≤ gi parents k ∧ gi parents k < k := fun k a b => ⟨(hT k a b).1, (hT k a b).2.1⟩
  have hol : r9.1.length = parents.length := hS.1
  refine iter_allgo r9.1.length _ (fun k hk => ?_) (by unfold law43_PlaylistsDifferLittle_L5; simp) n (by omega)
  have hkp : k < parents.length := by omega
  have len : ∀ j, j < parents.length → (gl r9.1 j).length = l.length := fun j hj => by
    by_cases e0 : j = 0
    · subst e0; exact hS.2.1.1
    · exact (hS.2.2 j (by omega) hj).1
  have near := spr_near hs hT hhop hh0 hS.2 hD
  have db := dep_bounds hT2 hD
  unfold law43_PlaylistsDifferLittle_L5
  rw [decide_eq_true (by omega), cond_true, idx_get (gl_at (show i < r9.1.length by omega)), seen_short hs hl _ (len i hi) t n hn]
  simp only [obind, Option.bind_some]
  rw [idx_get (gl_at hk), seen_short hs hl _ (len k hkp) t n hn]
  simp only [Option.bind_some]
  rw [idx_get (gi_at (show i < d.length by omega)), idx_get (gi_at (show k < d.length by omega))]
  have vi := VP_seen hs hl h0 (gl r9.1 i) t
  have vk := VP_seen hs hl h0 (gl r9.1 k) t
  rw [next_eq vi, next_eq vk]
  simp only [Option.bind_some]
  have hi1 := db i hi; have hk1 := db k hkp
  have hm0 : 0 ≤ max (gi d i) (gi d k) ∧ max (gi d i) (gi d k) ≤ 100 := by omega
  have hmul0 : 0 ≤ max (gi d i) (gi d k) * hop := Int.mul_nonneg hm0.1 hh0
  have hmul1 : max (gi d i) (gi d k) * hop ≤ 100 * 1073741824 := Int.mul_le_mul hm0.2 hh1 hh0 (by omega)
  have hmk : gi d k * hop ≤ max (gi d i) (gi d k) * hop := Int.mul_le_mul_of_nonneg_right (by omega) hh0
  have ci := cnt_le (gl r9.1 i) t; have ck := cnt_le (gl r9.1 k) t
  rw [len i hi] at ci
  rw [len k hkp] at ck
  have fi := seen_form h0 (gl r9.1 i) t
  have fk := seen_form h0 (gl r9.1 k) t
  have li : ((seenP l (gl r9.1 i) t).L.length : Int) = (cnt (gl r9.1 i) t : Nat) := by rw [fi]; simp; omega
  have lk : ((seenP l (gl r9.1 k) t).L.length : Int) = (cnt (gl r9.1 k) t : Nat) := by rw [fk]; simp; omega
  have ei : (seenP l (gl r9.1 i) t).First = l[0].Num := by rw [fi]
  have ek : (seenP l (gl r9.1 k) t).First = l[0].Num := by rw [fk]
  have hb0 := hs.1 0 h0
  unfold okSeg at hb0
  rw [li, lk, ei, ek]
  unfold playlist_Gap
  rw [need_pos (by omega), w64 (x := max (gi d i) (gi d k) * hop) (by omega) (by omega), w64 (x := max (gi d i) (gi d k) * hop + sh) (by omega) (by omega), w64 (x := max (gi d i) (gi d k) * hop + sh - 1) (by omega) (by omega)]
  have hq0 : 0 ≤ (max (gi d i) (gi d k) * hop + sh - 1).tdiv sh := Int.tdiv_nonneg (by omega) (by omega)
  have hq1 : (max (gi d i) (gi d k) * hop + sh - 1).tdiv sh ≤ max (gi d i) (gi d k) * hop + sh - 1 := Int.tdiv_le_self _ (by omega)
  rw [w64 (x := (max (gi d i) (gi d k) * hop + sh - 1).tdiv sh) (by omega) (by omega), w64 (x := l[0].Num + ((cnt (gl r9.1 i) t : Nat) : Int) - (l[0].Num + ((cnt (gl r9.1 k) t : Nat) : Int))) (by omega) (by omega)]
  simp only [Option.bind_some]
  have gap : l[0].Num + ((cnt (gl r9.1 i) t : Nat) : Int) - (l[0].Num + ((cnt (gl r9.1 k) t : Nat) : Int)) ≤ (max (gi d i) (gi d k) * hop + sh - 1).tdiv sh := by
    by_cases hlt : cnt (gl r9.1 k) t < cnt (gl r9.1 i) t
    · have a := cnt_lt (gl r9.1 i) t (cnt (gl r9.1 i) t - 1) (by omega)
      have b := cnt_at (gl r9.1 k) t (by rw [len k hkp]; omega)
      have na := near i hi (cnt (gl r9.1 i) t - 1) (by omega)
      have nb := near k hkp (cnt (gl r9.1 k) t) (by omega)
      obtain ⟨q, hq⟩ : ∃ q, cnt (gl r9.1 i) t = cnt (gl r9.1 k) t + q + 1 := ⟨cnt (gl r9.1 i) t - cnt (gl r9.1 k) t - 1, by omega⟩
      have far := sEnd_far hs hsh (cnt (gl r9.1 k) t) q (by omega)
      rw [hq, Nat.add_sub_cancel] at na a
      rw [hq]
      rw [Int.tdiv_eq_ediv_of_nonneg (by omega)]
      refine (Int.le_ediv_iff_mul_le (by omega)).2 ?_
      rw [show l[0].Num + ((cnt (gl r9.1 k) t + q + 1 : Nat) : Int) - (l[0].Num + ((cnt (gl r9.1 k) t : Nat) : Int)) = (q : Int) + 1 by omega, Int.add_mul, Int.one_mul]
      omega
    · omega
  rw [decide_eq_false (by omega), cond_false]
  rw [merge_eq _ _ vi vk 100 n hn]
  have hmerge : mergeP (seenP l (gl r9.1 i) t) (seenP l (gl r9.1 k) t) 100 = (⟨l[0].Num, l.take (max (cnt (gl r9.1 i) t) (cnt (gl r9.1 k) t)), false⟩, 0) := by
    unfold mergeP
    rw [if_pos (by omega), fi, fk]
    by_cases hlt : nextP ⟨l[0].Num, l.take (cnt (gl r9.1 i) t), false⟩ < nextP ⟨l[0].Num, l.take (cnt (gl r9.1 k) t), false⟩
    · rw [if_pos hlt]
      unfold nextP at hlt
      simp only [List.length_take] at hlt
      show mergeEL _ _ false 100 = _
      rw [merge_part l hs hl h0 _ _ (by omega) ck, Nat.max_eq_right (by omega)]
    · rw [if_neg hlt]
      unfold nextP at hlt
      simp only [List.length_take] at hlt
      show mergeEL _ _ false 100 = _
      rw [merge_part l hs hl h0 _ _ (by omega) ci, Nat.max_eq_left (by omega)]
  rw [hmerge]
  simp only [Option.bind_some, ne_eq, not_true_eq_false, decide_false, cond_false]
  have hnx : playlist_Next ⟨l[0].Num, l.take (max (cnt (gl r9.1 i) t) (cnt (gl r9.1 k) t)), false⟩ = some (l[0].Num + ((max (cnt (gl r9.1 i) t) (cnt (gl r9.1 k) t) : Nat) : Int)) := by
    unfold playlist_Next
    simp only [List.length_take]
    rw [w64 (by omega) (by omega)]
    congr 2
    omega
  rw [hnx]
  simp only [Option.bind_some]
  rw [decide_eq_false (by omega)]
  simp only [bindJ_go, cond_false]
  rw [w64 (by omega) (by omega)]
  rfl
theorem law6_of (l : List S_api_Segment) (parents : List Int) (delays : List (List Int)) (t : Int) (hdl : delays.length ≤ 9223372036854775807) : ∃ m, law43_PlaylistsDifferLittle m l parents delays t = some true := by
  obtain ⟨k, hk⟩ : ∃ k : Nat, delays.length + 3000000 ≤ k := ⟨_, Nat.le_refl _⟩
  obtain ⟨n, hsane, hn⟩ : ∃ n, law43_sanity n = some true ∧ k ≤ n := ⟨k + 40, sane k, Nat.le_add_right _ _⟩
  refine ⟨n, ?_⟩
  unfold law43_PlaylistsDifferLittle
  rw [small_eq l parents delays hdl n (by omega), hsane]
  simp only [obind, Option.bind_some]
  by_cases hc : ((∀ d ∈ delays, d.length ≤ 60) ∧ l.length ≤ 60 ∧ parents.length ≤ 12 ∧ delays.length ≤ 12) ∧ l.length ≠ 0
  · obtain ⟨h1, h0⟩ := hc
    rw [decide_eq_true h1, decide_eq_false (show ¬ (l.length : Int) = 0 by omega)]
    obtain ⟨c1, c2, c3, c4⟩ := h1
    simp only [Bool.not_true, Bool.or_false, cond_false]
    obtain ⟨r, e, h⟩ := spread_eq l (by omega) parents delays (fun d hd => by have := c1 d hd; omega) n (by omega)
    rw [e]
    simp only [Option.bind_some]
    rcases h with ⟨hr, hs, hT, hS⟩ | ⟨rfl, _⟩
    · have hT0 := hT
      obtain ⟨hp1, hp2, hp3, hT1⟩ := hT
      rw [decide_eq_false (show ¬ r.2 ≠ 0 by omega), cond_false]
      obtain ⟨hop, e1, a1, a2⟩ := hop_loop parents delays (by omega) hp3 c1 (by omega) n (by omega)
      have e1' : iter (law43_PlaylistsDifferLittle_L1 n parents delays) n (0, 1) = some (.go hop) := e1
      obtain ⟨sh, e2, b1, b2, b3⟩ := short_loop l hs c2 n (by omega)
      rw [e1', bindJ_go, e2, bindJ_go]
      by_cases hh : 1073741824 < hop
      · rw [decide_eq_true hh]; rfl
      · rw [decide_eq_false hh, cond_false]
        obtain ⟨d, e3, d1, d2⟩ := depths_eq parents (by omega) (by omega) (fun k a b => ⟨(hT1 k a b).1, (hT1 k a b).2.1⟩) n (by omega)
        rw [e3]
        simp only [Option.bind_some]
        have hol : r.1.length = parents.length := hS.1
        have outer : iter (law43_PlaylistsDifferLittle_L4 n l t r hop sh d) n 0 = some (.go ()) := by
          refine iter_allgo r.1.length _ (fun i hi => ?_) (by unfold law43_PlaylistsDifferLittle_L4; simp) n (by omega)
          unfold law43_PlaylistsDifferLittle_L4
          rw [decide_eq_true (by omega), cond_true, differ_inner l hs c2 (by omega) parents d delays r hT0 hS d1 d2 hop sh t a2 a1 (by omega) b1 b2 b3 n (by omega) i (by omega), bindJ_go, w64 (by omega) (by omega)]
          rfl
        rw [outer]
        rfl
    · rfl
  · have e : ((!(decide ((∀ d ∈ delays, d.length ≤ 60) ∧ l.length ≤ 60 ∧ parents.length ≤ 12 ∧ delays.length ≤ 12))) || decide ((l.length : Int) = 0)) = true := by
      by_cases h1 : ((∀ d ∈ delays, d.length ≤ 60) ∧ l.length ≤ 60 ∧ parents.length ≤ 12 ∧ delays.length ≤ 12)
      · have : l.length = 0 := Classical.byContradiction fun q => hc ⟨h1, q⟩
        rw [decide_eq_true (show (l.length : Int) = 0 by omega), Bool.or_true]
      · rw [decide_eq_false h1]; rfl
    rw [e]; rfl
end Go.Proofs.YtbgpojdmdnkeaaaDoor
namespace Go.Abs
open Go.Sem Go.ChangeShapes Go.RowKit

/-- a law's contract, as the claim's frame wants it -/
theorem Meets.law {P : Program} {f : FuncId} {args : List Value} {H : List HA} (h : Meets P f args H (fun v G => v = .bool true ∧ G = [])) {w : World} (hs : Sats w (fun _ => .no) H) :
    Calls P f args.toArray w fun e w' => e = .returned (.bool true) ∧ Below w.heap.size w w' := by
  refine (h w (fun _ => .no) (fun _ _ => rfl) hs).mono fun e w' ⟨v, G, o', he, ⟨hv, _⟩, _, ht, _⟩ => ?_
  subst hv
  exact ⟨he, ht.os, ht.tape, ht.output, ht.size, fun k hk => (ht.no k hk rfl).2⟩

theorem cells_open {w : World} {a : Option Addr} {len cap es : Nat} {cells : List (List Value)} (hcl : cells.length = len) (h1 : len ≤ cap) (h2 : cap ≤ maxLen) (h3 : a = none → cap = 0) (hes : 0 < es)
    (he : ∀ c ∈ cells, c.length = es) (hc : ∀ x, a = some x → ∀ i c, cells[i]? = some c → ∀ j v, c[j]? = some v → w.cell? (x.add (i * es + j)) = some v) :
    SliceIs w (fun b => (fun _ => Ow.no : Own) b = .no) (.slice a len cap) es cells := by
  refine ⟨a, cap, by rw [hcl], by omega, h2, h3, ?_⟩
  intro i c hi
  have hlen := he c (List.mem_of_getElem? hi)
  cases a with
  | none =>
    have := (List.getElem?_eq_some_iff.1 hi).1
    have := h3 rfl
    omega
  | some x =>
    have e0 : c[0]? = some (c[0]'(by omega)) := List.getElem?_eq_getElem (by omega)
    have h := hc x rfl i c hi 0 _ e0
    have hs0 := World.cell?_spot h
    have hb : x.block < w.heap.size := by
      unfold World.cell? at h
      have e : (x.add (i * es + 0)).block = x.block := by unfold Addr.add; split <;> rfl
      rw [e] at h
      cases hh : w.heap[x.block]? with
      | none => rw [hh] at h; simp at h
      | some o => exact (Array.getElem?_eq_some_iff.1 hh).1
    obtain ⟨b, off, spot⟩ := x
    refine ⟨hlen, b, off, ?_, hb, rfl, ?_⟩
    · cases spot with
      | none => rfl
      | some q =>
        exfalso
        have hi0 : ∀ i c, cells[i]? = some c → i = 0 := by
          intro i c hi
          false_or_by_contra
          have hlen := he c (List.mem_of_getElem? hi)
          have hi00 : cells[0]? = some (cells[0]'(by have := (List.getElem?_eq_some_iff.1 hi).1; omega)) := List.getElem?_eq_getElem _
          have hl0 := he _ (List.mem_of_getElem? hi00)
          have h := hc _ rfl 0 _ hi00 0 _ (List.getElem?_eq_getElem (by omega))
          have := World.cell?_spot h
          simp [Addr.add] at this
        have := hi0 i c hi
        subst this
        simp [Addr.add] at hs0
    · intro j v hj
      have h' := hc _ rfl i c hi j v hj
      have hsp := World.cell?_spot h'
      rw [← h']
      congr 1
      unfold Addr.add at hsp ⊢
      split
      · rename_i h0
        rw [if_pos h0] at hsp
        simp only at hsp
        rw [hsp]
        have : off + i * es + j = off := by omega
        rw [this]
      · rw [Nat.add_assoc]
theorem slice_nil {w : World} {B : Nat → Prop} {es : Nat} : SliceIs w B (.slice none 0 0) es [] := ⟨none, 0, rfl, by simp, by unfold maxLen; omega, fun _ => rfl, fun i c h => by simp at h⟩
end Go.Abs
namespace Go.Abs
open Go.Sem Go.ChangeShapes Go.RowKit
end Go.Abs
namespace Go.Abs
open Go.Sem Go.ChangeShapes Go.RowKit
section
variable {H : Type} {enc : TypeId × Value → H} {P : Program} {w : World} {base : Nat} {sp : Nat → Bool} {held : Bool}
end
end Go.Abs
namespace Go.Abs
open Go.Sem Go.ChangeShapes Go.RowKit
section
variable {H : Type} {enc : TypeId × Value → H} {P : Program} {w : World} {base : Nat} {sp : Nat → Bool} {held : Bool}
def wfI (k : IntKind) (n : Int) : Prop := (Lit.int k n).wf = true
/-- a type is opened: what is read of it lies in the cells 'F a', and a is well formed -/
def Opens (enc : TypeId × Value → H) (P : Program) (w : World) (base : Nat) (sp : Nat → Bool) (held : Bool) (t : TypeId) {α : Type} (F : α → List Value) (wf : α → Prop) : Prop :=
  ∀ (fuel : Nat) (cs : List Value) (x : DataW H × List MemPlace), DataW.trod enc P w base sp held fuel t cs = some x → ∃ a, cs = F a ∧ wf a
theorem opn_int {t : TypeId} {k : IntKind} (ht : P.underlying t = some (.int k)) : Opens enc P w base sp held t (eInt k) (wfI k) := by
  intro fuel cs x h
  obtain ⟨n, hc, _, hw⟩ := DataW.trod_int ht h
  exact ⟨n, hc, hw⟩
/-- the elements of a slice that is opened -/
theorem opn_slice {t e : TypeId} {es : Nat} {α : Type} {F : α → List Value} {wf : α → Prop} (ht : P.underlying t = some (.slice e)) (hce : P.cellsOf e = es) (hes : 0 < es) (hF : ∀ a, (F a).length = es)
    (ho : Opens enc P w base sp held e F wf) {fuel : Nat} {cs : List Value} {x : DataW H × List MemPlace} (h : DataW.trod enc P w base sp held fuel t cs = some x) :
    ∃ (v : Value) (l : List α), cs = [v] ∧ (∀ a ∈ l, wf a) ∧ SliceIs w (fun b => (fun _ => Ow.no : Own) b = .no) v es (l.map F) ∧
      ((x = (.nil, []) ∧ l = []) ∨ ∃ ys rs ps, x = (.slice ys rs, ps) ∧ ys.length = l.length) := by
  rcases DataW.trod_slice ht h with ⟨rfl, hx⟩ | ⟨a, len, cap, elems, rest, m, _, rfl, rfl, hb, hl, hm, hlen, hel', hsp, hns⟩
  · exact ⟨_, [], rfl, by simp, slice_nil, .inl ⟨hx, rfl⟩⟩
  · have each : ∀ i, i < len → ∃ d : α, wf d ∧ ∀ j v, (F d)[j]? = some v → w.cell? (a.add (i * es + j)) = some v := by
      intro i hi
      have h1 := hel' i hi
      rw [List.getElem?_eq_getElem (by omega), hce, Option.bind_eq_some_iff] at h1
      obtain ⟨cs', hcs, hy⟩ := h1
      obtain ⟨d, rfl, hd⟩ := ho _ _ _ hy
      refine ⟨d, hd, fun j v hj => ?_⟩
      have hjlt : j < es := by have := (List.getElem?_eq_some_iff.1 hj).1; rw [hF] at this; omega
      have := (World.cells?_some hcs).2.2 j hjlt
      rw [hj] at this
      rw [← this]
      congr 1
      unfold Addr.add
      by_cases e1 : i * es = 0
      · rw [if_pos e1]; simp [e1]
      · rw [if_neg e1, if_neg (by omega)]
        by_cases e2 : j = 0
        · simp [e2]
        · rw [if_neg e2]; simp [Nat.add_assoc]
    have hch : ∃ l : List α, l.length = len ∧ ∀ i d, l[i]? = some d → wf d ∧ ∀ j v, (F d)[j]? = some v → w.cell? (a.add (i * es + j)) = some v := by
      clear hel' hlen hsp hns hl h
      induction len with
      | zero => exact ⟨[], rfl, by simp⟩
      | succ k ih =>
        obtain ⟨l, hl1, hl2⟩ := ih (fun i hi => each i (by omega))
        obtain ⟨d, hd1, hd2⟩ := each k (by omega)
        refine ⟨l ++ [d], by simp [hl1], fun i d' hi => ?_⟩
        by_cases hik : i < k
        · rw [List.getElem?_append_left (by omega)] at hi; exact hl2 i d' hi
        · rw [List.getElem?_append_right (by omega)] at hi
          have : i = k := by have := (List.getElem?_eq_some_iff.1 hi).1; simp at this; omega
          subst this
          rw [hl1, Nat.sub_self] at hi
          simp at hi
          subst hi
          exact ⟨hd1, hd2⟩
    obtain ⟨l, hl1, hl2⟩ := hch
    refine ⟨_, l, rfl, ?_, ?_, .inr ⟨_, _, _, rfl, by simp [hlen, hl1]⟩⟩
    · intro d hd
      obtain ⟨i, hi⟩ := List.getElem?_of_mem hd
      exact (hl2 i d hi).1
    · refine cells_open (by rw [List.length_map, hl1]) hl hm (by simp) hes ?_ ?_
      · intro c hc
        obtain ⟨d, hd, rfl⟩ := List.mem_map.1 hc
        exact hF d
      · intro x hx i c hi j v hj
        cases hx
        simp only [List.getElem?_map, Option.map_eq_some_iff] at hi
        obtain ⟨d, hd, rfl⟩ := hi
        exact (hl2 i d hd).2 j v hj
end
end Go.Abs
namespace Go.Abs
open Go.Sem Go.ChangeShapes Go.RowKit
section
variable {H : Type} {enc : TypeId × Value → H} {P : Program} {w : World} {base : Nat} {sp : Nat → Bool} {held : Bool}
def noO : Own := fun _ => .no
def OpensN (enc : TypeId × Value → H) (P : Program) (w : World) (base : Nat) (sp : Nat → Bool) (held : Bool) (t : TypeId) {α : Type} (C : NC α) (wf : α → Prop) : Prop :=
  ∀ (fuel : Nat) (cs : List Value) (x : DataW H × List MemPlace), DataW.trod enc P w base sp held fuel t cs = some x → ∃ a g, cs = C.F a g ∧ wf a ∧ ∀ k, HsP (C.S a g) w noO k
theorem slice_len {t e : TypeId} (ht : P.underlying t = some (.slice e)) {fuel : Nat} {cs : List Value} {x : DataW H × List MemPlace} (h : DataW.trod enc P w base sp held fuel t cs = some x) {N : Nat}
    (hx : (x = (.nil, []) ∧ N = 0) ∨ ∃ ys rs ps, x = (.slice ys rs, ps) ∧ ys.length = N) : N ≤ maxLen := by
  rcases DataW.trod_slice ht h with ⟨_, h0⟩ | ⟨a, len, cap, elems, rest, m, _, _, h0, _, hl, hm, hlen, _⟩
  · rcases hx with ⟨_, rfl⟩ | ⟨ys, rs, ps, h1, _⟩
    · exact Nat.zero_le _
    · rw [h0] at h1; cases h1
  · rcases hx with ⟨h1, _⟩ | ⟨ys, rs, ps, h1, h2⟩
    · rw [h0] at h1; cases h1
    · rw [h0] at h1; cases h1; rw [List.length_map] at h2; omega
theorem opn_leafL {t e : TypeId} {es : Nat} {α : Type} {F : α → List Value} {wf : α → Prop} (ht : P.underlying t = some (.slice e)) (hce : P.cellsOf e = es) (hes : 0 < es) (hF : ∀ a, (F a).length = es)
    (ho : Opens enc P w base sp held e F wf) {fuel : Nat} {cs : List Value} {x : DataW H × List MemPlace} (h : DataW.trod enc P w base sp held fuel t cs = some x) :
    ∃ (v : Value) (l : List α), cs = [v] ∧ (l.length ≤ maxLen ∧ ∀ a ∈ l, wf a) ∧ ∀ k, (ro v es (l.map F)).p w noO k := by
  obtain ⟨v, l, h1, h2, h3, h4⟩ := opn_slice ht hce hes hF ho h
  refine ⟨v, l, h1, ⟨slice_len ht h ?_, h2⟩, fun _ => h3⟩
  rcases h4 with ⟨h5, rfl⟩ | h5
  · exact .inl ⟨h5, rfl⟩
  · exact .inr h5
theorem opn_leafNL {t e : TypeId} {α : Type} {C : NC α} {wf : α → Prop} (ht : P.underlying t = some (.slice e)) (hce : P.cellsOf e = C.es) (hes : 0 < C.es) (hF : ∀ a g, (C.F a g).length = C.es)
    (ho : OpensN enc P w base sp held e C wf) {fuel : Nat} {cs : List Value} {x : DataW H × List MemPlace} (h : DataW.trod enc P w base sp held fuel t cs = some x)
    (hn : C.nn = true → False := by exact fun h => absurd h (by decide)) : ∃ (v : Value) (l : List α), cs = [v] ∧ (l.length ≤ maxLen ∧ ∀ a ∈ l, wf a) ∧ ∀ k, (nro v C l).p w noO k := by
  have ho' : Opens enc P w base sp held e (fun p : α × C.G => C.F p.1 p.2) (fun p => wf p.1 ∧ ∀ k, HsP (C.S p.1 p.2) w noO k) := fun fuel cs x h => let ⟨a, g, h1, h2, h3⟩ := ho fuel cs x h; ⟨(a, g), h1, h2, h3⟩
  obtain ⟨v, lg, h1, h2, h3, h4⟩ := opn_slice ht hce hes (fun p : α × C.G => hF p.1 p.2) ho' h
  refine ⟨v, lg.map (·.1), h1, ⟨slice_len ht h ?_, ?_⟩, fun k => ⟨⟨lg, rfl, h3, fun p hp => (h2 p hp).2 k⟩, fun h => (hn h).elim⟩⟩
  · rcases h4 with ⟨h5, rfl⟩ | h5
    · exact .inl ⟨h5, rfl⟩
    · exact .inr (by simpa using h5)
  intro a ha
  obtain ⟨p, hp, rfl⟩ := List.mem_map.1 ha
  exact (h2 p hp).1
end
end Go.Abs
namespace Go.Abs
open Go.Sem Go.ChangeShapes Go.RowKit
theorem laid_at {P : Program} {w : World} {n : String} {d : DataW Unit} : ∀ {l : List (String × DataW Unit)} {ps : List MemPlace}, DataW.LaidVars P w l ps → (n, d) ∈ l →
    ∃ g t cs fuel p, P.globalNamed n = some g ∧ (P.globals[g]?).map (·.type) = some t ∧ w.var? P n = some cs ∧ DataW.trod (fun _ => ()) P w 0 (fun _ => true) false fuel t cs.toList = some (d, p)
  | [], _, _, h => by simp at h
  | (m, e) :: r, ps, ⟨g, t, cs, fuel, p, q, h1, h2, h3, h4, h5, _⟩, h => by
    rcases List.mem_cons.1 h with h | h
    · cases h; exact ⟨g, t, cs, fuel, p, h1, h2, h3, h4⟩
    · exact laid_at h5 h
theorem laid_tab {P : Program} {w : World} {l : List (String × DataW Unit)} {name : String} {k : IntKind} {zs : List Int} {g t e : Nat} {n : Nat} (h : laidMet P l w) (hm : (name, Lib.tabData k zs) ∈ l)
    (hg : P.globalNamed name = some g) (hty : (P.globals[g]?).map (·.type) = some t) (ht : P.underlying t = some (.array n e)) (he : P.underlying e = some (.int k)) (hce : P.cellsOf e = 1) (hct : P.cellsOf t = n) : Lib.TabIs P w name k zs := by
  obtain ⟨ps, hl, _⟩ := h
  obtain ⟨g', t', cs, fuel, p, hg', ht', hvar, hd⟩ := laid_at hl hm
  obtain rfl := Option.some.inj (hg.symm.trans hg')
  obtain rfl := Option.some.inj (hty.symm.trans ht')
  unfold Lib.TabIs
  rw [hvar, ← Lib.cells_of_tab ht he hce hct hd]
theorem laid_iface {P : Program} {w : World} {l : List (String × DataW Unit)} {name s : String} {d : DataW Unit} {g t : Nat} {ms : Array (String × TypeId)} (h : laidMet P l w) (hm : (name, DataW.iface s d) ∈ l)
    (hg : P.globalNamed name = some g) (hty : (P.globals[g]?).map (·.type) = some t) (ht : P.underlying t = some (.interface ms)) : ∃ u v, w.cell? ⟨g, 0, none⟩ = some (.iface u v) := by
  obtain ⟨ps, hl, _⟩ := h
  obtain ⟨g', t', cs, fuel, p, hg', ht', hvar, hd⟩ := laid_at hl hm
  obtain rfl := Option.some.inj (hg.symm.trans hg')
  obtain rfl := Option.some.inj (hty.symm.trans ht')
  have hc : ∃ u v, cs.toList = [.iface u v] := by
    cases fuel with
    | zero => simp [DataW.trod] at hd
    | succ fuel =>
      unfold DataW.trod at hd
      rw [ht] at hd
      split at hd <;> simp_all
  obtain ⟨u, v, hc⟩ := hc
  refine ⟨u, v, ?_⟩
  have := World.var?_cell hg hvar 0
  rw [this, ← Array.getElem?_toList, hc]; rfl
section
variable {H : Type} {enc : TypeId × Value → H} {P : Program} {w : World} {base : Nat} {sp : Nat → Bool} {held : Bool}
theorem opn_arr {t e : TypeId} {n : Nat} {k : IntKind} (ht : P.underlying t = some (.array n e)) (he : P.underlying e = some (.int k)) (hce : P.cellsOf e = 1) (hct : P.cellsOf t = n) {fuel : Nat} {cs : List Value} {x : DataW H × List MemPlace}
    (h : DataW.trod enc P w base sp held fuel t cs = some x) : ∃ l : List Int, l.length = n ∧ cs = l.map (Value.int k) ∧ ∀ a ∈ l, wfI k a := by
  obtain ⟨xs, m, _, _, hl, hx, hf⟩ := DataW.trod_array ht h
  rw [hct] at hl
  have key : ∀ i, i < n → ∃ a, cs[i]? = some (.int k a) ∧ wfI k a := by
    intro i hi
    have h1 := hf i hi
    rw [List.getElem?_eq_getElem (show i < xs.length by omega)] at h1
    obtain ⟨a, hc, _, hw⟩ := DataW.trod_int he h1
    refine ⟨a, ?_, hw⟩
    have := congrArg (·[0]?) hc
    simpa [hce, List.getElem?_take, List.getElem?_drop] using this
  clear hf hx
  have all : ∀ (n : Nat) (cs : List Value), cs.length = n → (∀ i, i < n → ∃ a, cs[i]? = some (.int k a) ∧ wfI k a) → ∃ l : List Int, l.length = n ∧ cs = l.map (Value.int k) ∧ ∀ a ∈ l, wfI k a := by
    intro n
    induction n with
    | zero => intro cs hl _; exact ⟨[], rfl, by simpa using hl, by simp⟩
    | succ n ih =>
      intro cs hl key
      match cs, hl with
      | c :: r, hl =>
        obtain ⟨l, e1, e2, e3⟩ := ih r (by simpa using hl) (fun i hi => by simpa using key (i + 1) (by omega))
        obtain ⟨a, e4, e5⟩ := key 0 (by omega)
        refine ⟨a :: l, by simp [e1], ?_, ?_⟩
        · simp at e4; simp [e4, ← e2]
        · intro b hb
          rcases List.mem_cons.1 hb with rfl | hb
          · exact e5
          · exact e3 b hb
  exact all n cs hl key
end
end Go.Abs
namespace Go.Proofs.YtbgpojdmdnkeaaaDoor
open Go.Abs Go.ChangeShapes Go.RowKit
set_option maxRecDepth 100000
set_option linter.unusedVariables false
def S_api_Digest.wf (x : S_api_Digest) : Prop := ∀ a ∈ x.toL, wfI .u8 a
theorem S_api_Digest.opn {H : Type} {enc : TypeId × Value → H} {w : World} {base : Nat} {sp : Nat → Bool} {held : Bool} : Opens enc Tryd.prog w base sp held 38 S_api_Digest.enc S_api_Digest.wf := by
  intro fuel cs x h
  obtain ⟨l, hl, e, hw⟩ := opn_arr Tryd.underlying38 Tryd.underlying5 (by kernel_rfl) (by kernel_rfl) h
  match l, hl with
  | [y0, y1, y2, y3, y4, y5, y6, y7, y8, y9, y10, y11, y12, y13, y14, y15], _ => exact ⟨⟨y0, y1, y2, y3, y4, y5, y6, y7, y8, y9, y10, y11, y12, y13, y14, y15⟩, e, hw⟩
def S_api_Segment.wf (x : S_api_Segment) : Prop := wfI .i64 x.Num ∧ wfI .i64 x.Begin ∧ wfI .i64 x.Len ∧ S_api_Digest.wf x.Body ∧ wfI .i64 x.Size
theorem S_api_Segment.opn {H : Type} {enc : TypeId × Value → H} {w : World} {base : Nat} {sp : Nat → Bool} {held : Bool} : Opens enc Tryd.prog w base sp held 40 S_api_Segment.enc S_api_Segment.wf := by
  intro fuel cs x h
  obtain ⟨xs, n, _, _, hl, hlen, hf⟩ := DataW.trod_struct Tryd.underlying40 h
  have hl' : cs.length = 20 := hl.trans (by kernel_rfl)
  have hx : xs.length = 5 := hlen
  have k3 : Tryd.prog.cellsOf 3 = 1 := by kernel_rfl
  have k38 : Tryd.prog.cellsOf 38 = 16 := by kernel_rfl
  match cs, hl' with
  | [c0, c1, c2, c3, c4, c5, c6, c7, c8, c9, c10, c11, c12, c13, c14, c15, c16, c17, c18, c19], _ =>
    have f0 := hf 0 _ rfl
    rw [List.getElem?_eq_getElem (show 0 < xs.length by omega)] at f0
    obtain ⟨a0, e0, w0⟩ := (opn_int Tryd.underlying3) _ _ _ f0
    simp [k3, eInt, eStr, eBool] at e0
    have f1 := hf 1 _ rfl
    rw [List.getElem?_eq_getElem (show 1 < xs.length by omega)] at f1
    obtain ⟨a1, e1, w1⟩ := (opn_int Tryd.underlying3) _ _ _ f1
    simp [k3, eInt, eStr, eBool] at e1
    have f2 := hf 2 _ rfl
    rw [List.getElem?_eq_getElem (show 2 < xs.length by omega)] at f2
    obtain ⟨a2, e2, w2⟩ := (opn_int Tryd.underlying3) _ _ _ f2
    simp [k3, eInt, eStr, eBool] at e2
    have f3 := hf 3 _ rfl
    rw [List.getElem?_eq_getElem (show 3 < xs.length by omega)] at f3
    obtain ⟨a3, e3, w3⟩ := S_api_Digest.opn _ _ _ f3
    simp [k38, S_api_Digest.enc] at e3
    have f4 := hf 4 _ rfl
    rw [List.getElem?_eq_getElem (show 4 < xs.length by omega)] at f4
    obtain ⟨a4, e4, w4⟩ := (opn_int Tryd.underlying3) _ _ _ f4
    simp [k3, eInt, eStr, eBool] at e4
    exact ⟨⟨a0, a1, a2, a3, a4⟩, by simp [S_api_Segment.enc, e0, e1, e2, e3, e4], w0, w1, w2, w3, w4⟩
def S_api_Playlist.wf (x : S_api_Playlist) : Prop := wfI .i64 x.First ∧ (x.L.length ≤ maxLen ∧ ∀ a ∈ x.L, S_api_Segment.wf a) ∧ True
theorem NC_L_int_46.opn {H : Type} {enc : TypeId × Value → H} {w : World} {base : Nat} {sp : Nat → Bool} {held : Bool} : OpensN enc Tryd.prog w base sp held 46 NC_L_int_46 (fun a => (a.length ≤ maxLen ∧ ∀ c ∈ a, wfI .i64 c)) := by
  intro fuel cs x h
  obtain ⟨v, l, e, hw, hs⟩ := opn_leafL (es := 1) (F := (eInt .i64)) (wf := (fun a => wfI .i64 a)) Tryd.underlying46 (by kernel_rfl) (by decide) (fun a => ((eInt_ok _) a).1) (opn_int Tryd.underlying3) h
  exact ⟨l, v, e, hw, fun k h hh => by simp only [NC_L_int_46, List.mem_cons, List.not_mem_nil, or_false] at hh; subst hh; exact hs k⟩

end Go.Proofs.YtbgpojdmdnkeaaaDoor
namespace Go.Proofs.YtbgpojdmdnkeaaaDoor
open Go.Abs
theorem law6 (l : List S_api_Segment) (parents : List Int) (delays : List (List Int)) (t : Int) (_ : l.length ≤ maxLen ∧ ∀ a ∈ l, S_api_Segment.wf a) (_ : parents.length ≤ maxLen ∧ ∀ a ∈ parents, wfI .i64 a) (hd : delays.length ≤ maxLen ∧ ∀ a ∈ delays, (a.length ≤ maxLen ∧ ∀ c ∈ a, wfI .i64 c)) (_ : wfI .i64 t) :
    ∃ m, law43_PlaylistsDifferLittle m l parents delays t = some true := law6_of l parents delays t (by have := hd.1; unfold maxLen at this; omega)
end Go.Proofs.YtbgpojdmdnkeaaaDoor
namespace Go.Proofs.YtbgpojdmdnkeaaaDoor
open Go.Abs
/-- so many blocks has the settled world -/
noncomputable def low : Nat := (World.holding Tryd.prog default ⟨#[], #[], []⟩).heap.size
/-- the settled world with the laid variables -/
noncomputable def laidWorld (os : Os) : World :=
  let w0 := World.holding Tryd.prog os ⟨#[.cells #[.string ⟨#[105, 110, 118, 97, 108, 105, 100, 32, 115, 121, 110, 116, 97, 120]⟩] 140, .cells #[.string ⟨#[118, 97, 108, 117, 101, 32, 111, 117, 116, 32, 111, 102, 32, 114, 97, 110, 103, 101]⟩] 140], #[], []⟩
  { w0 with heap := (((((((w0.heap.modify 3 fun
      | .cells _ t frozen => .cells (([1, 10, 100, 1000, 10000, 100000, 1000000, 10000000, 100000000, 1000000000, 10000000000, 100000000000, 1000000000000, 10000000000000, 100000000000000, 1000000000000000, 10000000000000000, 100000000000000000, 1000000000000000000, 10000000000000000000] : List Int).map (Value.int .u64)).toArray t frozen
      | o => o).modify 4 fun
      | .cells _ t frozen => .cells (Go.Pinned.utf8FirstZ.map fun (n : Nat) => Value.int .u8 (n : Int)).toArray t frozen
      | o => o).modify 5 fun
      | .cells _ t frozen => .cells (([128, 191, 160, 191, 128, 159, 144, 191, 128, 143, 0, 0, 0, 0, 0, 0, 0, 0, 0, 0, 0, 0, 0, 0, 0, 0, 0, 0, 0, 0, 0, 0] : List Int).map (Value.int .u8)).toArray t frozen
      | o => o).modify 6 fun
      | .cells _ t frozen => .cells (([0, 1, 28, 2, 29, 14, 24, 3, 30, 22, 20, 15, 25, 17, 4, 8, 31, 27, 13, 23, 21, 19, 16, 7, 26, 12, 18, 6, 11, 5, 10, 9] : List Int).map (Value.int .u8)).toArray t frozen
      | o => o).modify 7 fun
      | .cells _ t frozen => .cells (([0, 1, 56, 2, 57, 49, 28, 3, 61, 58, 42, 50, 38, 29, 17, 4, 62, 47, 59, 36, 45, 43, 51, 22, 53, 39, 33, 30, 24, 18, 12, 5, 63, 55, 48, 27, 60, 41, 37, 16, 46, 35, 44, 21, 52, 32, 23, 11, 54, 26, 40, 15, 34, 20, 31, 10, 25, 14, 19, 9, 13, 8, 7, 6] : List Int).map (Value.int .u8)).toArray t frozen
      | o => o).modify 1 fun
      | .cells _ t frozen => .cells #[.iface 138 (.pointer (some ⟨low, 0, none⟩))] t frozen
      | o => o).modify 2 fun
      | .cells _ t frozen => .cells #[.iface 138 (.pointer (some ⟨low + 1, 0, none⟩))] t frozen
      | o => o) }
def laidL : List (String × DataW Unit) := [("math/bits.deBruijn32tab", Rows.laid_math_bits_deBruijn32tab), ("math/bits.deBruijn64tab", Rows.laid_math_bits_deBruijn64tab), ("internal/strconv.uint64pow10", Rows.laid_internal_strconv_uint64pow10), ("unicode/utf8.acceptRanges", Rows.laid_unicode_utf8_acceptRanges), ("strconv.ErrRange", Rows.laid_strconv_ErrRange), ("strconv.ErrSyntax", Rows.laid_strconv_ErrSyntax), ("unicode/utf8.first", Rows.laid_unicode_utf8_first)]
theorem laidWorld_met (os : Os) (args : Array Value) : laidMet Tryd.prog laidL ((laidWorld os).forCall (fun _ _ => 0) ⟨#[], args, []⟩).memory :=
  laidMet_of_run' 8 (by kernel_rfl) (by kernel_rfl)
theorem gPow : Tryd.prog.globalNamed "internal/strconv.uint64pow10" = some 3 := by kernel_rfl
theorem globIs {W : World} (h : laidMet Tryd.prog laidL W) (hs : W.ShapedOpen Tryd.prog) : GlobIs Tryd.prog 8 W where
  maxLen := let ⟨m, hm⟩ := Tryd.laysM146.s1_3 W hs; ⟨0, m, gMax, by decide, hm⟩
  errSyntax := let ⟨u, v, hc⟩ := laid_iface (s := "*errors.errorString") (d := .ptr (.agg [.lit (.string [105, 110, 118, 97, 108, 105, 100, 32, 115, 121, 110, 116, 97, 120])])) h (by simp [laidL, Rows.laid_strconv_ErrSyntax]) gSyn (t := 87) (by kernel_rfl) Tryd.underlying87; ⟨1, u, v, gSyn, by decide, hc⟩
  errRange := let ⟨u, v, hc⟩ := laid_iface (s := "*errors.errorString") (d := .ptr (.agg [.lit (.string [118, 97, 108, 117, 101, 32, 111, 117, 116, 32, 111, 102, 32, 114, 97, 110, 103, 101])])) h (by simp [laidL, Rows.laid_strconv_ErrRange]) gRng (t := 87) (by kernel_rfl) Tryd.underlying87; ⟨2, u, v, gRng, by decide, hc⟩
  pow10 := ⟨3, gPow, by decide, laid_tab h (List.mem_cons_of_mem _ (List.mem_cons_of_mem _ (List.mem_cons.2 (.inl (by kernel_rfl))))) gPow (t := 127) (by kernel_rfl) Tryd.underlying127 Tryd.underlying112 (by kernel_rfl) (by kernel_rfl)⟩
theorem laid_size {W : World} (h : laidMet Tryd.prog laidL W) : 8 ≤ W.heap.size := by
  obtain ⟨ps, hl, _⟩ := h
  obtain ⟨g, t, cs, fuel, p, e1, _, e3, _⟩ := laid_at (n := "math/bits.deBruijn64tab") hl (List.mem_cons_of_mem _ (List.mem_cons_self ..))
  have eg : Tryd.prog.globalNamed "math/bits.deBruijn64tab" = some 7 := by kernel_rfl
  obtain rfl := Option.some.inj (eg.symm.trans e1)
  unfold World.var? at e3
  rw [eg] at e3
  simp only [Option.bind_some] at e3
  by_cases h : 7 < W.heap.size
  · omega
  · rw [Array.getElem?_eq_none (by omega)] at e3; simp at e3
theorem globP {W : World} (h : laidMet Tryd.prog laidL W) (hs : W.ShapedOpen Tryd.prog) (k : Nat) : globA.p W noO k := ⟨laid_size h, fun _ _ => rfl, globIs h hs⟩
end Go.Proofs.YtbgpojdmdnkeaaaDoor
