/-
  The law WireTruncated where its arguments are of bulk at most 1048576: the law answers true, and leaves its arguments as they were.
-/
import Derived.Test.YtbhlfdklpihaiaaRows
import Derived.Test.YtbhlfdklpihaiaaAbsEnd3
import Derived.Test.YtbhlfdklpihaiaaWalk10
import Derived.JoinedCond
namespace Go.Proofs.Ytbhlfdklpihaiaa.lawShort
open Go.Abs Go.ChangeShapes Go.WideShapes Go.ChangeAt Go.RowKit
open Go.ChangeMaps (open_string shut_string)
set_option linter.unusedVariables false

theorem own : ownKnob Try.prog.godebug = none := by kernel_rfl
theorem laidOut : laidOutB Try.prog = true := by kernel_rfl

theorem one_le {H : Type} (d : DataW H) : 1 ≤ Rows.uptoBulk d := by
  cases d with
  | lit l => cases l <;> simp [Rows.uptoBulk]
  | nil => simp [Rows.uptoBulk]
  | ptr d => simp [Rows.uptoBulk]
  | slice e r => simp [Rows.uptoBulk]
  | agg p => simp [Rows.uptoBulk]
  | iface t d => simp [Rows.uptoBulk]
  | map e => simp [Rows.uptoBulk]
  | held x => simp [Rows.uptoBulk]
theorem length_le {H : Type} (l : List (DataW H)) : l.length ≤ Rows.uptoBulkAll l := by
  induction l with
  | nil => simp [Rows.uptoBulkAll]
  | cons x r ih => have := one_le x; simp only [Rows.uptoBulkAll, List.length_cons]; omega
theorem part_le {H : Type} {d : DataW H} {l : List (DataW H)} (h : d ∈ l) : Rows.uptoBulk d ≤ Rows.uptoBulkAll l := by
  induction l with
  | nil => cases h
  | cons x r ih =>
    simp only [Rows.uptoBulkAll]
    rcases List.mem_cons.1 h with rfl | h
    · omega
    · have := ih h; omega
theorem strs_bulk {H : Type} : ∀ ss : List ByteArray, (ss.map (·.data.toList)).length + ((ss.map (·.data.toList)).map List.length).sum ≤ Rows.uptoBulkAll (strs (H := H) ss)
  | [] => by simp
  | s :: r => by
    have ih := strs_bulk (H := H) r
    have e : strs (H := H) (s :: r) = .lit (.string s.data.toList) :: strs r := rfl
    rw [e, Rows.uptoBulkAll, Rows.uptoBulk, List.map_cons, List.length_cons, List.map_cons, List.sum_cons]
    omega

set_option maxRecDepth 100000 in
theorem lifted (os : Os) (started : os.Started) (H : Type) (enc : TypeId × Value → H) (F : Stop.Interp) :
    ReturnsInHanded {} Try.checked os 9 .any ((Rows.OpenSpec.upto Rows.wireTruncatedSpec).pre6 enc Try.prog Try.f9 Rows.wireTruncatedUptoRow.domain false) (((Rows.OpenSpec.upto Rows.wireTruncatedSpec).at F).post enc Try.prog Try.f9 false true false false) := by
  refine returnsInHanded_of_cond (C := Try.checked) (s := Rows.OpenSpec.upto Rows.wireTruncatedSpec) (k := Rows.uptoSmall) rfl own started (by kernel_rfl) Try.func9
    (OpenSpec.witness (enc := enc) (C := Try.checked) (s := Rows.OpenSpec.upto Rows.wireTruncatedSpec) (k := Rows.uptoSmall) rfl false ⟨#[], #[.int .i64 0, .string ByteArray.empty, .slice none 0 0, .slice none 0 0, .slice none 0 0], []⟩ 8 (by kernel_rfl) (by kernel_rfl) (by kernel_rfl)
      (x := ([.lit (.int .i64 0), .lit (.string []), .nil, .nil, .nil], [], [])) (by kernel_rfl) rfl (by kernel_rfl)) ?_
  intro W base args ds gs before hval0 hW hcnd hk _
  have hval : ∀ (j : Nat) t v, Try.f9.params[j]? = some t → args[j]? = some v → Value.okWide Try.prog W .any base t v := hval0
  have hW' := hW
  obtain ⟨p, q, hA0, hV, rfl, hfz, hnd⟩ := hW
  have hA : DataW.TrodAll enc Try.prog W 0 (fun _ => true) true Try.f9.params.toList args.toList ds p := hA0
  rw [Try.params9] at hA hval
  obtain ⟨v0, vs0, d0, ds0, p0, q0, hargs, rfl, rfl, h0, r0⟩ := trodAll_cons hA
  obtain ⟨v1, vs1, d1, ds1, p1, q1, rfl, rfl, rfl, h1, r1⟩ := trodAll_cons r0
  obtain ⟨v2, vs2, d2, ds2, p2, q2, rfl, rfl, rfl, h2, r2⟩ := trodAll_cons r1
  obtain ⟨v3, vs3, d3, ds3, p3, q3, rfl, rfl, rfl, h3, r3⟩ := trodAll_cons r2
  obtain ⟨v4, vs4, d4, ds4, p4, q4, rfl, rfl, rfl, h4, r4⟩ := trodAll_cons r3
  obtain ⟨rfl, rfl, rfl⟩ := trodAll_nil r4
  obtain rfl : args = #[v0, v1, v2, v3, v4] := by cases args; simp_all
  obtain ⟨rfl, rfl⟩ := trodVars_none hV
  have hk2 : Rows.uptoBulkAll ([d0, d1, d2, d3, d4] : List (DataW H)) ≤ 1048576 := of_decide_eq_true hk
  have u0 : Rows.uptoBulk d0 ≤ 1048576 := Nat.le_trans (part_le (by simp)) hk2
  have u1 : Rows.uptoBulk d1 ≤ 1048576 := Nat.le_trans (part_le (by simp)) hk2
  have u2 : Rows.uptoBulk d2 ≤ 1048576 := Nat.le_trans (part_le (by simp)) hk2
  have u3 : Rows.uptoBulk d3 ≤ 1048576 := Nat.le_trans (part_le (by simp)) hk2
  have u4 : Rows.uptoBulk d4 ≤ 1048576 := Nat.le_trans (part_le (by simp)) hk2
  obtain ⟨a0, rfl, rfl, rfl, w0⟩ := open_int Try.underlying3 (hval 0 3 v0 rfl rfl) h0
  obtain ⟨s1, rfl, rfl, rfl, w1⟩ := open_string Try.underlying9 (hval 1 9 v1 rfl rfl) h1
  have e1 : s1.data.toList.length ≤ 1048576 := by simp only [Rows.uptoBulk] at u1; omega
  obtain ⟨a2, len2, cap2, rfl⟩ := okWide_slice Try.underlying22 (hval 2 22 v2 rfl rfl)
  have k2 := h2
  have lt2 : ∀ x ∈ p2, x.block < W.heap.size := by obtain ⟨m, hm⟩ := k2; exact DataW.trod_lt m _ _ _ hm
  obtain ⟨b2, w2, n2, e2⟩ : ∃ b : List Int, SliceIs W (fun b => (fun _ => Ow.no : Own) b = .no) (.slice a2 len2 cap2) 1 (i64c b) ∧ (∀ n ∈ b, -9223372036854775808 ≤ n ∧ n ≤ 9223372036854775807) ∧ b.length ≤ 1048576 := by
    obtain ⟨fuel, hf⟩ := h2
    rcases open_ints Try.underlying22 Try.underlying3 (by kernel_rfl) hf with ⟨hcs, hx⟩ | ⟨x, l, c, zs, hcs, _, hl, hm, hz, hx, hcell, hwz⟩
    · simp [Value.cells] at hcs
      obtain ⟨rfl, rfl, rfl⟩ := hcs
      exact ⟨[], slice_nil, by simp, by simp⟩
    · simp [Value.cells] at hcs
      obtain ⟨rfl, rfl, rfl⟩ := hcs
      obtain ⟨b, hbl, hn, hb⟩ := ints_in hl hm (by simp only [if_true] at hz; omega) hcell hwz
      refine ⟨b, hb, hn, ?_⟩
      simp only [Prod.mk.injEq] at hx
      rw [hx.1, Rows.uptoBulk] at u2
      have h9 := length_le (lits (H := H) .i64 (zs.take len2))
      have h8 : (lits (H := H) .i64 (zs.take len2)).length = len2 := by simp only [lits, List.length_map, List.length_take]; simp only [if_true] at hz; omega
      omega
  obtain ⟨a3, len3, cap3, rfl⟩ := okWide_slice Try.underlying23 (hval 3 23 v3 rfl rfl)
  have k3 := h3
  have lt3 : ∀ x ∈ p3, x.block < W.heap.size := by obtain ⟨m, hm⟩ := k3; exact DataW.trod_lt m _ _ _ hm
  obtain ⟨b3, w3, e3⟩ : ∃ b : List (List UInt8), SliceIs W (fun b => (fun _ => Ow.no : Own) b = .no) (.slice a3 len3 cap3) 1 (strc b) ∧ b.length + (b.map List.length).sum ≤ 1048576 := by
    obtain ⟨fuel, hf⟩ := h3
    rcases open_strings Try.underlying23 Try.underlying9 (by kernel_rfl) hf with ⟨hcs, hx⟩ | ⟨x, l, c, ss, hcs, _, hl, hm, hz, hx, hcell, hsz⟩
    · simp [Value.cells] at hcs
      obtain ⟨rfl, rfl, rfl⟩ := hcs
      exact ⟨[], slice_nil, by simp⟩
    · simp [Value.cells] at hcs
      obtain ⟨rfl, rfl, rfl⟩ := hcs
      refine ⟨(ss.take len3).map (·.data.toList), strs_in hl hm (by simp only [if_true] at hz; omega) hcell, ?_⟩
      simp only [Prod.mk.injEq] at hx
      rw [hx.1, Rows.uptoBulk] at u3
      have h9 := strs_bulk (H := H) (ss.take len3)
      omega
  obtain ⟨a4, len4, cap4, rfl⟩ := okWide_slice Try.underlying24 (hval 4 24 v4 rfl rfl)
  have k4 := h4
  have lt4 : ∀ x ∈ p4, x.block < W.heap.size := by obtain ⟨m, hm⟩ := k4; exact DataW.trod_lt m _ _ _ hm
  obtain ⟨b4, w4, e4, f4⟩ : ∃ b : List (List UInt8), SliceIs W (fun b => (fun _ => Ow.no : Own) b = .no) (.slice a4 len4 cap4) 16 (arrc b) ∧ b.length ≤ 1048576 ∧ ∀ y ∈ b, y.length = 16 := by
    obtain ⟨fuel, hf⟩ := h4
    obtain ⟨v, l, hcs, hl, hs, hx⟩ := digs_in (n := 16) (by decide) Try.underlying24 Try.underlying57 Try.underlying5 (by kernel_rfl) (by kernel_rfl) hf
    simp [Value.cells] at hcs
    subst hcs
    refine ⟨l, hs, ?_, hl⟩
    rcases hx with ⟨_, rfl⟩ | ⟨es, rs, ps, hx, he⟩
    · simp
    · simp only [Prod.mk.injEq] at hx
      rw [hx.1, Rows.uptoBulk] at u4
      have h9 := length_le es
      omega
  clear hA0 hval0
  refine ((law_short a0 (i64_in w0).1 (i64_in w0).2 s1.data.toList e1 _ b2 e2 n2 _ b3 e3 _ b4 e4 f4).law (w := W) (fun k h hk => by
    match k, hk with
    | 0, hk => cases hk; exact w2
    | 1, hk => cases hk; exact w3
    | 2, hk => cases hk; exact w4)).mono fun e W' ⟨he, bel⟩ => ?_
  subst he
  exact ⟨_, rfl, _, _, _, [], _, [], hW', trodAll_mk1 (shut_bool Try.underlying4 _), (trodAll_cons_mk (shut_int Try.underlying3 w0) (trodAll_cons_mk (shut_string Try.underlying9 w1) (trodAll_cons_mk (Below.trod laidOut (by kernel_rfl) (of_decide_eq_true (by kernel_rfl)) k2 bel lt2) (trodAll_cons_mk (Below.trod laidOut (by kernel_rfl) (of_decide_eq_true (by kernel_rfl)) k3 bel lt3) (trodAll_cons_mk (Below.trod laidOut (by kernel_rfl) (of_decide_eq_true (by kernel_rfl)) k4 bel lt4) trodAll_mk0))))), rfl, bel.frame _, fun h => by cases h⟩

theorem over : Rows.wireTruncatedUptoRow.holds Try.pinned (Rows.OpenSpec.upto Rows.wireTruncatedSpec) :=
  OpenClaim.holds_of_cond 9 Try.f9 rfl rfl rfl rfl rfl rfl rfl ⟨rfl, rfl, rfl, rfl, rfl⟩ rfl rfl rfl rfl rfl (by kernel_rfl) Try.func9 (by kernel_rfl)
    (of_decide_eq_true (by kernel_rfl)) (by unfold Func.isWrapper; first | (rw [if_pos (by decide +kernel)]; kernel_rfl) | (rw [if_neg (by decide +kernel)]; exact ⟨rfl, rfl⟩))
    (fun os started H enc _ F => lifted os started H enc F)

/-- the statement -/
theorem proved : Rows.WireTruncatedUptoSaid := over
end Go.Proofs.Ytbhlfdklpihaiaa.lawShort
