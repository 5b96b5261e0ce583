/-
  More arguments of a claim's frame: slices of strings, slices of arrays of sixteen bytes.
-/
import Derived.Test.YtigiikkenamneaaAbsEnd2
namespace Go.Abs
open Go.Sem Go.ChangeShapes Go.RowKit
theorem strs_in {w : World} {a : Addr} {len cap : Nat} {ss : List ByteArray} (h1 : len ≤ cap) (h2 : cap ≤ maxLen) (h3 : len ≤ ss.length) (hc : ∀ i, i < ss.length → w.cell? (a.add i) = some (.string (ss.getD i ByteArray.empty))) :
    SliceIs w (fun b => (fun _ => Ow.no : Own) b = .no) (.slice (some a) len cap) 1 (strc ((ss.take len).map (·.data.toList))) := by
  refine cells_open (by simp [strc]; omega) h1 h2 (by simp) (by omega) ?_ ?_
  · intro c hc; simp only [strc, List.mem_map] at hc; obtain ⟨_, _, rfl⟩ := hc; rfl
  · intro x hx i c hi j v hj
    cases hx
    simp only [strc, List.map_map, List.getElem?_map, Option.map_eq_some_iff] at hi
    obtain ⟨s, hn, rfl⟩ := hi
    have hj0 : j = 0 := by have := (List.getElem?_eq_some_iff.1 hj).1; simpa using this
    subst hj0
    have hv : v = .string s := by simp at hj; exact hj.symm
    have hlt : i < ss.length := by have := (List.getElem?_eq_some_iff.1 hn).1; rw [List.length_take] at this; omega
    have hn2 : ss[i] = s := by
      obtain ⟨h5, h6⟩ := List.getElem?_eq_some_iff.1 hn
      rw [← h6]; simp
    have := hc i hlt
    rw [List.getD_eq_getElem?_getD, List.getElem?_eq_getElem hlt, Option.getD_some, hn2] at this
    rw [Nat.mul_one, Nat.add_zero, this, hv]

section
variable {H : Type} {enc : TypeId × Value → H} {P : Program} {w : World} {base : Nat} {sp : Nat → Bool} {held : Bool}
/-- an array of bytes, opened -/
theorem trod_arr8 {n : Nat} {e el : TypeId} {fuel : Nat} {cs : List Value} {x : DataW H × List MemPlace} (he : P.underlying e = some (.array n el)) (hel : P.underlying el = some (.int .u8)) (hc : P.cellsOf el = 1) (hce : P.cellsOf e = n)
    (h : DataW.trod enc P w base sp held fuel e cs = some x) : ∃ d : List UInt8, d.length = n ∧ cs = arr8 d := by
  obtain ⟨xs, m, rfl, _, hl, hx, hi⟩ := DataW.trod_array he h
  rw [hce] at hl
  have each : ∀ i, i < n → ∃ u : UInt8, cs[i]? = some (.int .u8 u.toNat) := by
    intro i hlt
    have h1 := hi i hlt
    rw [hc, Nat.mul_one] at h1
    rw [List.getElem?_eq_getElem (by omega)] at h1
    obtain ⟨k, hk, _, hw⟩ := DataW.trod_int hel h1
    simp only [Lit.wf, Bool.and_eq_true, decide_eq_true_eq] at hw
    have hr : 0 ≤ k ∧ k ≤ 255 := hw
    refine ⟨UInt8.ofNat k.toNat, ?_⟩
    have h0 : ((cs.drop i).take 1)[0]? = some (.int .u8 k) := by rw [hk]; rfl
    rw [List.getElem?_take] at h0
    simp at h0
    rw [h0]
    have : (UInt8.ofNat k.toNat).toNat = k.toNat := by simp [UInt8.toNat_ofNat']; omega
    rw [this]
    exact congrArg (fun n : Int => some (Value.int .u8 n)) (by omega)
  refine ⟨cs.map (fun v => match v with | .int _ k => UInt8.ofNat k.toNat | _ => 0), by simp [hl], ?_⟩
  apply List.ext_getElem?
  intro i
  by_cases hlt : i < n
  · obtain ⟨u, hu⟩ := each i hlt
    simp [arr8, hu]
  · rw [List.getElem?_eq_none (by omega), List.getElem?_eq_none (by simp [arr8]; omega)]
theorem digs_in {n : Nat} {t e el : TypeId} {fuel : Nat} {cs : List Value} {x : DataW H × List MemPlace} (hn : 0 < n) (ht : P.underlying t = some (.slice e)) (he : P.underlying e = some (.array n el)) (hel : P.underlying el = some (.int .u8))
    (hc : P.cellsOf el = 1) (hce : P.cellsOf e = n) (h : DataW.trod enc P w base sp held fuel t cs = some x) :
    ∃ (v : Value) (l : List (List UInt8)), cs = [v] ∧ (∀ d ∈ l, d.length = n) ∧ SliceIs w (fun b => (fun _ => Ow.no : Own) b = .no) v n (arrc l) ∧
      ((x = (.nil, []) ∧ l = []) ∨ ∃ es rs ps, x = (.slice es rs, ps) ∧ es.length = l.length) := by
  rcases DataW.trod_slice ht h with ⟨rfl, hx⟩ | ⟨a, len, cap, elems, rest, m, _, rfl, rfl, hb, hl, hm, hlen, hel', hsp, hns⟩
  · exact ⟨_, [], rfl, by simp, slice_nil, .inl ⟨hx, rfl⟩⟩
  · have each : ∀ i, i < len → ∃ d : List UInt8, d.length = n ∧ ∀ j v, (arr8 d)[j]? = some v → w.cell? (a.add (i * n + j)) = some v := by
      intro i hi
      have h1 := hel' i hi
      rw [List.getElem?_eq_getElem (by omega), hce, Option.bind_eq_some_iff] at h1
      obtain ⟨cs', hcs, hy⟩ := h1
      obtain ⟨d, hd, rfl⟩ := trod_arr8 he hel hc hce hy
      refine ⟨d, hd, fun j v hj => ?_⟩
      have hjlt : j < n := by have := (List.getElem?_eq_some_iff.1 hj).1; rw [arr8_len] at this; omega
      have := (World.cells?_some hcs).2.2 j hjlt
      rw [hj] at this
      rw [← this]
      congr 1
      unfold Addr.add
      by_cases e1 : i * n = 0
      · rw [if_pos e1]; simp [e1]
      · rw [if_neg e1, if_neg (by omega)]
        by_cases e2 : j = 0
        · simp [e2]
        · rw [if_neg e2]; simp [Nat.add_assoc]
    have hch : ∃ l : List (List UInt8), l.length = len ∧ ∀ i d, l[i]? = some d → d.length = n ∧ ∀ j v, (arr8 d)[j]? = some v → w.cell? (a.add (i * n + j)) = some v := by
      clear hel' hlen hsp hns hl h
      induction len with
      | zero => exact ⟨[], rfl, by simp⟩
      | succ k ih =>
        obtain ⟨l, hl1, hl2⟩ := ih (fun i hi => each i (by omega))
        obtain ⟨d, hd1, hd2⟩ := each k (by omega)
        refine ⟨l ++ [d], by simp [hl1], fun i d' hi => ?_⟩
        by_cases hik : i < k
        · rw [List.getElem?_append_left (by omega)] at hi; exact hl2 i d' hi
        · rw [List.getElem?_append_right (by omega)] at hi
          have : i = k := by have := (List.getElem?_eq_some_iff.1 hi).1; simp at this; omega
          subst this
          rw [hl1, Nat.sub_self] at hi
          simp at hi
          subst hi
          exact ⟨hd1, hd2⟩
    obtain ⟨l, hl1, hl2⟩ := hch
    refine ⟨_, l, rfl, ?_, ?_, .inr ⟨_, _, _, rfl, by simp [hlen, hl1]⟩⟩
    · intro d hd
      obtain ⟨i, hi⟩ := List.getElem?_of_mem hd
      exact (hl2 i d hi).1
    · refine cells_open (by rw [arrc_len, hl1]) hl hm (by simp) hn ?_ ?_
      · intro c hc
        simp only [arrc, List.mem_map] at hc
        obtain ⟨d, hd, rfl⟩ := hc
        obtain ⟨i, hi⟩ := List.getElem?_of_mem hd
        rw [arr8_len]; exact (hl2 i d hi).1
      · intro x hx i c hi j v hj
        cases hx
        simp only [arrc, List.getElem?_map, Option.map_eq_some_iff] at hi
        obtain ⟨d, hd, rfl⟩ := hi
        exact (hl2 i d hd).2 j v hj
end
end Go.Abs
