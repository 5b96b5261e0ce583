/-
  Texts that stand side by side: BG5c, AbsPlain, BPa, BPb, BPc, BPd, BSane, AbsEnd, AbsEnd2, AbsEnd3, AbsEnd4, AbsEnd5, BOpn, BW5, BP5, BG6a.
-/
import Derived.Test.YtigiikkenamneaaBG5b
import Derived.Test.YtigiikkenamneaaM0
import Derived.Test.YtigiikkenamneaaBFd
import Derived.WalkKit
import Derived.ProofKit
import Derived.OpenShut
import Derived.ShutString
import Derived.ChangeOld
import Derived.Below
import Derived.SliceStrings
import Derived.Test.YtigiikkenamneaaM1
import Derived.ChangeArms
import Derived.Test.YtigiikkenamneaaBFa
namespace Go.Proofs.Ytigiikkenamneaa
open Go.Abs
set_option linter.unusedVariables false
set_option linter.unusedSimpArgs false
set_option maxRecDepth 20000
set_option maxHeartbeats 4000000

end Go.Proofs.Ytigiikkenamneaa
namespace Go.Abs
@[simp] theorem bindJ_go {S R : Type} (s : S) (k : S → Option R) : bindJ (some (.go s)) k = k s := rfl
@[simp] theorem bindJ_stop {S R : Type} (r : R) (k : S → Option R) : bindJ (some (.stop r)) k = some r := rfl
@[simp] theorem bindJ_none {S R : Type} (k : S → Option R) : bindJ (none : Option (Lp S R)) k = none := rfl
theorem need_pos {α : Type} {p : Prop} [Decidable p] (h : p) (x : Option α) : need p x = x := by simp [need, h]
theorem idx_get {α β : Type} {l : List α} {i : Nat} {x : α} (h : l[i]? = some x) (k : α → Option β) : idx l (i : Int) k = k x := by simp [idx, h]
theorem idx_get' {α β : Type} {l : List α} {i : Nat} (h : i < l.length) (k : α → Option β) : idx l (i : Int) k = k l[i] := idx_get (List.getElem?_eq_getElem h) k
theorem iter_go {S R : Type} {step : S → Option (Lp S R)} {n : Nat} {s s' : S} (h : step s = some (.go s')) : iter step (n + 1) s = iter step n s' := by simp [iter, h]
theorem iter_stop {S R : Type} {step : S → Option (Lp S R)} {n : Nat} {s : S} {r : R} (h : step s = some (.stop r)) : iter step (n + 1) s = some r := by simp [iter, h]
/-- a loop by an invariant and a measure -/
theorem iter_inv {S R : Type} {step : S → Option (Lp S R)} (inv : S → Prop) (μ : S → Nat) (post : R → Prop)
    (h : ∀ s, inv s → (∃ s', step s = some (.go s') ∧ inv s' ∧ μ s' < μ s) ∨ (∃ r, step s = some (.stop r) ∧ post r)) :
    ∀ (n : Nat) (s : S), inv s → μ s < n → ∃ r, iter step n s = some r ∧ post r
  | 0, s, _, hm => by omega
  | n + 1, s, hi, hm => by
    rcases h s hi with ⟨s', h1, h2, h3⟩ | ⟨r, h1, h2⟩
    · obtain ⟨r, h4, h5⟩ := iter_inv inv μ post h n s' h2 (by omega)
      exact ⟨r, by rw [iter_go h1, h4], h5⟩
    · exact ⟨r, iter_stop h1, h2⟩
theorem w64 {x : Int} (h1 : -9223372036854775808 ≤ x) (h2 : x ≤ 9223372036854775807) : IntKind.i64.wrap x = x := wrap_i64 h1 h2
end Go.Abs
namespace Go.Abs
end Go.Abs
namespace Go.Abs
end Go.Abs
namespace Go.Proofs.Ytigiikkenamneaa
open Go.Abs
set_option linter.unusedSimpArgs false
set_option linter.unusedVariables false
/-- the stages, by the number of each site's stage -/
def stg (a b c d : Nat) : List (List Int) := (List.range 3).map fun s => (if a = s then [0] else []) ++ (if b = s then [1] else []) ++ (if c = s then [2] else []) ++ (if d = s then [3] else [])
def chkS (k a b c d : Nat) : Bool := match topo_stageOf (k + 10) (stg a b c d) with
  | some (M, ok) => ok && decide (M.length = 4) && decide (mget M 0 = some (a : Int)) && decide (mget M 1 = some (b : Int)) && decide (mget M 2 = some (c : Int)) && decide (mget M 3 = some (d : Int))
  | none => false
theorem chkS_all (k : Nat) : ((List.range 81).all fun q => chkS k (q % 3) (q / 3 % 3) (q / 9 % 3) (q / 27 % 3)) = true := by kernel_rfl
def chkN (k : Nat) : Bool := (List.range 256).all fun n => decide (law42_stages (k + 10) (n : Int) = some (stg (n % 3) (n / 3 % 3) (n / 9 % 3) (n / 27 % 3)))
theorem chkN_all (k : Nat) : chkN k = true := by kernel_rfl
theorem stages_eq {n : Int} (h0 : 0 ≤ n) (h1 : n < 256) (m : Nat) (hm : 10 ≤ m) : ∃ f : Nat → Nat, (∀ i, f i < 3) ∧ law42_stages m n = some (stg (f 0) (f 1) (f 2) (f 3)) := by
  obtain ⟨k, rfl⟩ : ∃ k, m = k + 10 := ⟨m - 10, by omega⟩
  have h := List.all_eq_true.1 (chkN_all k) n.toNat (by simp; omega)
  rw [decide_eq_true_iff, Int.toNat_of_nonneg h0] at h
  refine ⟨fun i => match i with | 0 => n.toNat % 3 | 1 => n.toNat / 3 % 3 | 2 => n.toNat / 9 % 3 | _ => n.toNat / 27 % 3, fun i => ?_, h⟩
  match i with
  | 0 => exact Nat.mod_lt _ (by decide)
  | 1 => exact Nat.mod_lt _ (by decide)
  | 2 => exact Nat.mod_lt _ (by decide)
  | _ + 3 => exact Nat.mod_lt _ (by decide)
theorem stageOf_eq {f : Nat → Nat} (hf : ∀ i, f i < 3) (m : Nat) (hm : 10 ≤ m) : ∃ M : List (Int × Int), topo_stageOf m (stg (f 0) (f 1) (f 2) (f 3)) = some (M, true) ∧ M.length = 4 ∧ ∀ i : Nat, i < 4 → mget M (i : Int) = some (f i : Int) := by
  obtain ⟨k, rfl⟩ : ∃ k, m = k + 10 := ⟨m - 10, by omega⟩
  have a := hf 0; have b := hf 1; have c := hf 2; have d := hf 3
  have h := List.all_eq_true.1 (chkS_all k) (f 0 + 3 * f 1 + 9 * f 2 + 27 * f 3) (by simp; omega)
  rw [show (f 0 + 3 * f 1 + 9 * f 2 + 27 * f 3) % 3 = f 0 by omega, show (f 0 + 3 * f 1 + 9 * f 2 + 27 * f 3) / 3 % 3 = f 1 by omega, show (f 0 + 3 * f 1 + 9 * f 2 + 27 * f 3) / 9 % 3 = f 2 by omega, show (f 0 + 3 * f 1 + 9 * f 2 + 27 * f 3) / 27 % 3 = f 3 by omega] at h
  unfold chkS at h
  cases hs : topo_stageOf (k + 10) (stg (f 0) (f 1) (f 2) (f 3)) with
  | none => rw [hs] at h; cases h
  | some x =>
    obtain ⟨M, ok⟩ := x
    rw [hs] at h
    simp only [Bool.and_eq_true, decide_eq_true_eq] at h
    obtain ⟨⟨⟨⟨⟨h1, h2⟩, h3⟩, h4⟩, h5⟩, h6⟩ := h
    subst h1
    refine ⟨M, rfl, h2, fun i hi => ?_⟩
    match i, hi with
    | 0, _ => exact h3
    | 1, _ => exact h4
    | 2, _ => exact h5
    | 3, _ => exact h6
theorem stageNil (m : Nat) (hm : 10 ≤ m) : topo_stageOf m [] = some ([], true) := by
  obtain ⟨k, rfl⟩ : ∃ k, m = k + 10 := ⟨m - 10, by omega⟩
  kernel_rfl
theorem contains_eq (l : List Int) (v : Int) (n : Nat) (hl : l.length ≤ 100000) (hn : l.length < n) : slices_Contains_int_int_45 n l v = some (decide (v ∈ l)) := by
  unfold slices_Contains_int_int_45 slices_Index_int_int_69
  have key := iter_inv (step := slices_Index_int_int_69_L1 l v) (fun s => ∃ i : Nat, s = (i : Int) ∧ i ≤ l.length ∧ ∀ j (hj : j < l.length), j < i → l[j] ≠ v) (fun s => l.length - s.toNat) (fun r => (v ∈ l ∧ ∃ i : Nat, r = .stop (i : Int)) ∨ (v ∉ l ∧ r = .go ())) (by
    rintro s ⟨i, rfl, hi, hok⟩
    unfold slices_Index_int_int_69_L1
    by_cases hlt : i < l.length
    · have e : decide ((i : Int) < (l.length : Int)) = true := by simpa using hlt
      simp only [e, cond_true]
      rw [idx_get' hlt]
      by_cases hv : v = l[i]
      · right
        simp only [hv, decide_true, cond_true]
        exact ⟨_, rfl, .inl ⟨List.getElem_mem hlt, i, rfl⟩⟩
      · left
        simp only [hv, decide_false, cond_false]
        rw [w64 (by omega) (by omega)]
        exact ⟨_, rfl, ⟨i + 1, by simp, by omega, fun j hj hji => by
          by_cases e : j = i
          · subst e; exact fun q => hv q.symm
          · exact hok j hj (by omega)⟩, by omega⟩
    · right
      have e : decide ((i : Int) < (l.length : Int)) = false := by simpa using hlt
      simp only [e, cond_false]
      refine ⟨_, rfl, .inr ⟨fun hv => ?_, rfl⟩⟩
      obtain ⟨j, hj, q⟩ := List.getElem_of_mem hv
      exact hok j hj (by omega) q) n 0 ⟨0, rfl, Nat.zero_le _, fun j _ h => by omega⟩ (by simpa using hn)
  obtain ⟨r, hr, ⟨h, i, rfl⟩ | ⟨h, rfl⟩⟩ := key
  · rw [hr]; simp [obind, h]
  · rw [hr]; simp [obind, h]
theorem stg_len (a b c d : Nat) : (stg a b c d).length = 3 := rfl
theorem in_stg {f : Nat → Nat} {s : Nat} (hs : s < 3) {i : Nat} (hi : i < 4) {l : List Int} (hl : (stg (f 0) (f 1) (f 2) (f 3))[s]? = some l) : ((i : Int) ∈ l ↔ f i = s) ∧ l.length ≤ 4 := by
  have e : l = (if f 0 = s then [0] else []) ++ (if f 1 = s then [1] else []) ++ (if f 2 = s then [2] else []) ++ (if f 3 = s then [3] else []) := by
    unfold stg at hl
    rw [List.getElem?_map, List.getElem?_range hs] at hl
    exact (Option.some.inj hl).symm
  subst e
  refine ⟨?_, ?_⟩
  · match i, hi with
    | 0, _ => by_cases h0 : f 0 = s <;> by_cases h1 : f 1 = s <;> by_cases h2 : f 2 = s <;> by_cases h3 : f 3 = s <;> simp [h0, h1, h2, h3]
    | 1, _ => by_cases h0 : f 0 = s <;> by_cases h1 : f 1 = s <;> by_cases h2 : f 2 = s <;> by_cases h3 : f 3 = s <;> simp [h0, h1, h2, h3]
    | 2, _ => by_cases h0 : f 0 = s <;> by_cases h1 : f 1 = s <;> by_cases h2 : f 2 = s <;> by_cases h3 : f 3 = s <;> simp [h0, h1, h2, h3]
    | 3, _ => by_cases h0 : f 0 = s <;> by_cases h1 : f 1 = s <;> by_cases h2 : f 2 = s <;> by_cases h3 : f 3 = s <;> simp [h0, h1, h2, h3]
  · by_cases h0 : f 0 = s <;> by_cases h1 : f 1 = s <;> by_cases h2 : f 2 = s <;> by_cases h3 : f 3 = s <;> simp [h0, h1, h2, h3]
/-! loops over four -/
section
variable {α β : Type} {a b c d : α} (k : α → Option β)
theorem p0 : IntKind.i64.wrap (0 + 1) = 1 := by decide
theorem p1 : IntKind.i64.wrap (1 + 1) = 2 := by decide
theorem p2 : IntKind.i64.wrap (2 + 1) = 3 := by decide
theorem d0 : decide ((0 : Int) < 4) = true := by decide
theorem d1 : decide ((1 : Int) < 4) = true := by decide
theorem d2 : decide ((2 : Int) < 4) = true := by decide
theorem d3 : decide ((3 : Int) < 4) = true := by decide
end
theorem run4 {S R : Type} {step : S → Option (Lp S R)} {s0 s1 s2 s3 s4 : S} {r : R} (h0 : step s0 = some (.go s1)) (h1 : step s1 = some (.go s2)) (h2 : step s2 = some (.go s3)) (h3 : step s3 = some (.go s4)) (h4 : step s4 = some (.stop r)) (m : Nat) (hm : 10 ≤ m) : iter step m s0 = some r := by
  obtain ⟨k, rfl⟩ : ∃ k, m = k + 5 := ⟨m - 5, by omega⟩
  rw [iter_go h0, iter_go h1, iter_go h2, iter_go h3, iter_stop h4]
/-! fleets -/
def sts : Option (Nat → Nat) → List (List Int)
  | none => []
  | some f => stg (f 0) (f 1) (f 2) (f 3)
def up : Option (Nat → Nat) → Int → Nat → Bool
  | none, _, _ => false
  | some f, d, i => decide ((f i : Int) < d)
structure Ok1 (F : S_api_Fleet) (c : Option (Nat → Nat)) (i : Nat) (o : S_api_Order) : Prop where
  site : o.Site = i
  h0 : 0 ≤ o.Heard
  hs : o.Heard ≤ o.Serial
  sf : o.Serial ≤ F.Serial
  ver : o.Version = F.Base + (if up c F.Done i = true then 1 else 0)
structure FI (F : S_api_Fleet) (c : Option (Nat → Nat)) (o : Nat → S_api_Order) : Prop where
  b0 : 0 ≤ F.Base
  b1 : F.Base < 1000000000
  s0 : 0 ≤ F.Serial
  s1 : F.Serial ≤ 1000000
  n0 : 0 ≤ F.Done
  n1 : F.Done ≤ (F.Stages.length : Int)
  stg : F.Stages = sts c
  dig : ∀ f, c = some f → ∀ i, f i < 3
  ord : F.Orders = [o 0, o 1, o 2, o 3]
  each : ∀ i, i < 4 → Ok1 F c i (o i)
theorem parted {f : Nat → Nat} (hf : ∀ i, f i < 3) {o : Nat → S_api_Order} (ho : ∀ i, i < 4 → (o i).Site = i) (m : Nat) (hm : 10 ≤ m) : topo_isParted m [o 0, o 1, o 2, o 3] (stg (f 0) (f 1) (f 2) (f 3)) = some true := by
  obtain ⟨M, h1, h2, h3⟩ := stageOf_eq hf m hm
  unfold topo_isParted
  rw [h1]
  simp only [obind, Option.bind_some]
  have st : ∀ i : Nat, i < 4 → ∀ (h : ([o 0, o 1, o 2, o 3] : List S_api_Order)[i]? = some (o i)), topo_isParted_L1 [o 0, o 1, o 2, o 3] (M, true) (true, (i : Int)) = some (.go (true, ((i + 1 : Nat) : Int))) := fun i hi h => by
    unfold topo_isParted_L1
    have e : decide ((i : Int) < (([o 0, o 1, o 2, o 3] : List S_api_Order).length : Int)) = true := by simp; omega
    simp only [e, cond_true]
    rw [idx_get h, ho i hi, h3 i hi, w64 (by omega) (by omega)]; rfl
  have hr : iter (topo_isParted_L1 [o 0, o 1, o 2, o 3] (M, true)) m (true, ((0 : Nat) : Int)) = some (.go true) := run4 (st 0 (by decide) rfl) (st 1 (by decide) rfl) (st 2 (by decide) rfl) (st 3 (by decide) rfl) (r := .go true) (by unfold topo_isParted_L1; simp) m hm
  have hr' : iter (topo_isParted_L1 [o 0, o 1, o 2, o 3] (M, true)) m (true, 0) = some (.go true) := hr
  rw [hr']
  simp [h2]
theorem FI.valid {F : S_api_Fleet} {c : Option (Nat → Nat)} {o : Nat → S_api_Order} (h : FI F c o) (m : Nat) (hm : 10 ≤ m) : topo_ValidFleet m F = some true := by
  have hb0 := h.b0; have hb1 := h.b1; have hs0 := h.s0; have hs1 := h.s1; have hn0 := h.n0; have hn1 := h.n1
  unfold topo_ValidFleet
  have e1 : (((((decide (F.Base < 0) || decide (1073741824 ≤ F.Base)) || decide (F.Serial < 0)) || decide (1099511627776 < F.Serial)) || decide (F.Done < 0)) || decide ((F.Stages.length : Int) < F.Done)) = false := by simp; omega
  rw [e1, cond_false]
  have e2 : (bindJ (S := Bool) (cond (decide (0 < (F.Stages.length : Int))) (obind (topo_isParted m F.Orders F.Stages) fun r29 => some (.go (!r29))) (some (.go false))) (fun b23 => (some (.go b23) : Option (Lp Bool Bool)))) = some (.go false) := by
    cases c with
    | none => have := h.stg; simp only [sts] at this; rw [this]; rfl
    | some f =>
      have e := h.stg; simp only [sts] at e
      rw [e, h.ord, parted (h.dig f rfl) (fun i hi => (h.each i hi).site) m hm]; rfl
  rw [e2, bindJ_go, cond_false]
  obtain ⟨M, h1, h3⟩ : ∃ M : List (Int × Int), topo_stageOf m F.Stages = some (M, true) ∧ ∀ i : Nat, i < 4 → ((mget M (i : Int)).isSome && decide ((mget M (i : Int)).getD 0 < F.Done)) = up c F.Done i := by
    cases c with
    | none => have e := h.stg; simp only [sts] at e; rw [e]; exact ⟨_, stageNil m hm, fun i _ => rfl⟩
    | some f =>
      have e := h.stg; simp only [sts] at e; rw [e]
      obtain ⟨M, h1, _, h3⟩ := stageOf_eq (h.dig f rfl) m hm
      exact ⟨M, h1, fun i hi => by rw [h3 i hi]; rfl⟩
  rw [h1]
  simp only [obind, Option.bind_some]
  have st : ∀ i : Nat, i < 4 → ∀ (q : ([o 0, o 1, o 2, o 3] : List S_api_Order)[i]? = some (o i)), ∀ a : Int, a < (i : Int) → topo_ValidFleet_L1 F (M, true) (a, (i : Int)) = some (.go ((i : Int), ((i + 1 : Nat) : Int))) := fun i hi q a ha => by
    have k := h.each i hi
    have k1 := k.h0; have k2 := k.hs; have k3 := k.sf; have k4 := k.ver
    unfold topo_ValidFleet_L1
    rw [h.ord]
    have e : decide ((i : Int) < (([o 0, o 1, o 2, o 3] : List S_api_Order).length : Int)) = true := by simp; omega
    simp only [e, cond_true]
    rw [idx_get q, k.site, h3 i hi]
    have ev : bindJ (S := Int) (R := Lp (Int × Int) (Lp Unit Bool)) (cond (up c F.Done i) (some (.go (IntKind.i64.wrap (F.Base + 1)))) (some (.go F.Base))) = fun k => k (o i).Version := by
      funext kk
      rw [k4, w64 (by omega) (by omega)]
      cases up c F.Done i <;> simp
    rw [ev]
    unfold topo_isSite
    have e2 : (decide ((0 : Int) ≤ (i : Int)) && decide ((i : Int) < 64)) = true := by simp; omega
    simp only [e2, obind, Option.bind_some]
    have e3 : ((((((!true) || decide ((i : Int) ≤ a)) || decide ((o i).Serial < 0)) || decide (F.Serial < (o i).Serial)) || decide ((o i).Heard < 0)) || decide ((o i).Serial < (o i).Heard) || decide ((o i).Version ≠ (o i).Version)) = false := by simp; omega
    rw [e3, cond_false, w64 (by omega) (by omega)]
    simp
  have hr : iter (topo_ValidFleet_L1 F (M, true)) m (-1, ((0 : Nat) : Int)) = some (.go ()) := run4 (st 0 (by decide) rfl (-1) (by decide)) (st 1 (by decide) rfl _ (by decide)) (st 2 (by decide) rfl _ (by decide)) (st 3 (by decide) rfl _ (by decide)) (r := .go ()) (by unfold topo_ValidFleet_L1; rw [h.ord]; simp) m hm
  have hr' : iter (topo_ValidFleet_L1 F (M, true)) m (-1, 0) = some (.go ()) := hr
  rw [hr', bindJ_go]
end Go.Proofs.Ytigiikkenamneaa
namespace Go.Proofs.Ytigiikkenamneaa
open Go.Abs
set_option linter.unusedSimpArgs false
set_option linter.unusedVariables false
theorem clone_eq (l : List S_api_Order) (h : l.length ≤ 1000) : slices_Clone_weirgate_api_Order_weirgate_api_Order_71 l = some l := by
  unfold slices_Clone_weirgate_api_Order_weirgate_api_Order_71
  rw [need_pos (by simp; omega)]; simp
theorem clone2_eq (l : List Int) (h : l.length ≤ 1000) : slices_Clone_int_int_65 l = some l := by
  unfold slices_Clone_int_int_65
  rw [need_pos (by simp; omega)]; simp
theorem fl_eta (F : S_api_Fleet) : S_api_Fleet.mk F.Base F.Done F.Serial F.Stopped F.Stages F.Orders = F := rfl
/-- all orders are confirmed -/
def Sett (o : Nat → S_api_Order) : Prop := ∀ i, i < 4 → (o i).Heard = (o i).Serial
instance (o : Nat → S_api_Order) : Decidable (Sett o) := by unfold Sett; exact inferInstance
theorem index4 {a b c d : S_api_Order} (m : Nat) (hm : 10 ≤ m) : slices_ContainsFunc_weirgate_api_Order_weirgate_api_Order_72 m [a, b, c, d] = some (decide (a.Heard ≠ a.Serial) || (decide (b.Heard ≠ b.Serial) || (decide (c.Heard ≠ c.Serial) || decide (d.Heard ≠ d.Serial)))) := by
  obtain ⟨k, rfl⟩ : ∃ k, m = k + 5 := ⟨m - 5, by omega⟩
  unfold slices_ContainsFunc_weirgate_api_Order_weirgate_api_Order_72 slices_IndexFunc_weirgate_api_Order_weirgate_api_Order_55
  have st : ∀ (i : Nat) (x : S_api_Order), ([a, b, c, d] : List S_api_Order)[i]? = some x → i < 4 → slices_IndexFunc_weirgate_api_Order_weirgate_api_Order_55_L1 [a, b, c, d] (i : Int) = if x.Heard ≠ x.Serial then some (.stop (.stop (i : Int))) else some (.go ((i + 1 : Nat) : Int)) := fun i x hx hi => by
    unfold slices_IndexFunc_weirgate_api_Order_weirgate_api_Order_55_L1 topo_isSettled_1_73
    have e : decide ((i : Int) < (([a, b, c, d] : List S_api_Order).length : Int)) = true := by simp; omega
    simp only [e, cond_true]
    rw [idx_get hx, w64 (by omega) (by omega)]
    by_cases h : x.Heard = x.Serial <;> simp [obind, h]
  have s4 : slices_IndexFunc_weirgate_api_Order_weirgate_api_Order_55_L1 [a, b, c, d] ((4 : Nat) : Int) = some (.stop (.go ())) := by unfold slices_IndexFunc_weirgate_api_Order_weirgate_api_Order_55_L1; simp
  have s0 := st 0 a rfl (by decide); have s1 := st 1 b rfl (by decide); have s2 := st 2 c rfl (by decide); have s3 := st 3 d rfl (by decide)
  have key : ∃ r, iter (slices_IndexFunc_weirgate_api_Order_weirgate_api_Order_55_L1 [a, b, c, d]) (k + 5) ((0 : Nat) : Int) = some r ∧ bindJ (some r) (fun _ => some (-1)) = some (if a.Heard ≠ a.Serial then 0 else if b.Heard ≠ b.Serial then 1 else if c.Heard ≠ c.Serial then 2 else if d.Heard ≠ d.Serial then 3 else (-1 : Int)) := by
    by_cases ha : a.Heard ≠ a.Serial
    · rw [if_pos ha] at s0; exact ⟨_, iter_stop s0, by rw [if_pos ha]; rfl⟩
    · rw [if_neg ha] at s0; rw [iter_go s0, if_neg ha]
      by_cases hb : b.Heard ≠ b.Serial
      · rw [if_pos hb] at s1; exact ⟨_, iter_stop s1, by rw [if_pos hb]; rfl⟩
      · rw [if_neg hb] at s1; rw [iter_go s1, if_neg hb]
        by_cases hc : c.Heard ≠ c.Serial
        · rw [if_pos hc] at s2; exact ⟨_, iter_stop s2, by rw [if_pos hc]; rfl⟩
        · rw [if_neg hc] at s2; rw [iter_go s2, if_neg hc]
          by_cases hd : d.Heard ≠ d.Serial
          · rw [if_pos hd] at s3; exact ⟨_, iter_stop s3, by rw [if_pos hd]; rfl⟩
          · rw [if_neg hd] at s3; rw [iter_go s3, if_neg hd]
            exact ⟨_, iter_stop s4, rfl⟩
  obtain ⟨r, h1, h2⟩ := key
  have h1' : iter (slices_IndexFunc_weirgate_api_Order_weirgate_api_Order_55_L1 [a, b, c, d]) (k + 5) 0 = some r := h1
  rw [h1', h2]
  by_cases ha : a.Heard = a.Serial <;> by_cases hb : b.Heard = b.Serial <;> by_cases hc : c.Heard = c.Serial <;> by_cases hd : d.Heard = d.Serial <;> simp [obind, ha, hb, hc, hd]
theorem settled_eq {F : S_api_Fleet} {o : Nat → S_api_Order} (h : F.Orders = [o 0, o 1, o 2, o 3]) (m : Nat) (hm : 10 ≤ m) : topo_isSettled m F = some (decide (Sett o)) := by
  unfold topo_isSettled
  rw [h, index4 m hm]
  simp only [obind, Option.bind_some]
  congr 1
  have : Sett o ↔ ((o 0).Heard = (o 0).Serial ∧ (o 1).Heard = (o 1).Serial ∧ (o 2).Heard = (o 2).Serial ∧ (o 3).Heard = (o 3).Serial) := by
    constructor
    · intro q; exact ⟨q 0 (by decide), q 1 (by decide), q 2 (by decide), q 3 (by decide)⟩
    · rintro ⟨a, b, c, d⟩ i hi
      match i, hi with
      | 0, _ => exact a
      | 1, _ => exact b
      | 2, _ => exact c
      | 3, _ => exact d
  rw [show decide (Sett o) = decide ((o 0).Heard = (o 0).Serial ∧ (o 1).Heard = (o 1).Serial ∧ (o 2).Heard = (o 2).Serial ∧ (o 3).Heard = (o 3).Serial) from decide_eq_decide.2 this]
  by_cases ha : (o 0).Heard = (o 0).Serial <;> by_cases hb : (o 1).Heard = (o 1).Serial <;> by_cases hc : (o 2).Heard = (o 2).Serial <;> by_cases hd : (o 3).Heard = (o 3).Serial <;> simp [ha, hb, hc, hd]
/-- the index of a site -/
theorem site_index {o : Nat → S_api_Order} (ho : ∀ i, i < 4 → (o i).Site = i) {i : Nat} (hi : i < 4) (m : Nat) (hm : 10 ≤ m) : slices_IndexFunc_weirgate_api_Order_weirgate_api_Order_55_v1 m [o 0, o 1, o 2, o 3] (i : Int) = some (i : Int) := by
  obtain ⟨k, rfl⟩ : ∃ k, m = k + 5 := ⟨m - 5, by omega⟩
  unfold slices_IndexFunc_weirgate_api_Order_weirgate_api_Order_55_v1
  have st : ∀ (j : Nat), ([o 0, o 1, o 2, o 3] : List S_api_Order)[j]? = some (o j) → j < 4 → slices_IndexFunc_weirgate_api_Order_weirgate_api_Order_55_v1_L1 [o 0, o 1, o 2, o 3] (i : Int) (j : Int) = if j = i then some (.stop (.stop (j : Int))) else some (.go ((j + 1 : Nat) : Int)) := fun j hx hj => by
    unfold slices_IndexFunc_weirgate_api_Order_weirgate_api_Order_55_v1_L1 topo_Confirm_1_1_56
    have e : decide ((j : Int) < (([o 0, o 1, o 2, o 3] : List S_api_Order).length : Int)) = true := by simp; omega
    simp only [e, cond_true]
    rw [idx_get hx, w64 (by omega) (by omega), ho j hj]
    by_cases h : j = i
    · simp [obind, h]
    · have : ¬ ((j : Int) = (i : Int)) := by omega
      simp [obind, h, this]
  have s0 := st 0 rfl (by decide); have s1 := st 1 rfl (by decide); have s2 := st 2 rfl (by decide); have s3 := st 3 rfl (by decide)
  have key : iter (slices_IndexFunc_weirgate_api_Order_weirgate_api_Order_55_v1_L1 [o 0, o 1, o 2, o 3] (i : Int)) (k + 5) ((0 : Nat) : Int) = some (.stop (i : Int)) := by
    match i, hi with
    | 0, _ => exact iter_stop s0
    | 1, _ => rw [iter_go s0]; exact iter_stop s1
    | 2, _ => rw [iter_go s0, iter_go s1]; exact iter_stop s2
    | 3, _ => rw [iter_go s0, iter_go s1, iter_go s2]; exact iter_stop s3
  have key' : iter (slices_IndexFunc_weirgate_api_Order_weirgate_api_Order_55_v1_L1 [o 0, o 1, o 2, o 3] (i : Int)) (k + 5) 0 = some (.stop (i : Int)) := key
  rw [key']; rfl
/-- a new fleet -/
def ord0 (v : Int) (i : Nat) : S_api_Order := ⟨i, v, 0, 0⟩
theorem new_fi {v : Int} (h0 : 0 ≤ v) (h1 : v < 1000000) : FI ⟨v, 0, 0, false, [], [ord0 v 0, ord0 v 1, ord0 v 2, ord0 v 3]⟩ none (ord0 v) :=
  ⟨h0, by simp only; omega, by simp, by simp, by simp, by simp, rfl, (fun f h => by cases h), rfl, fun i hi => ⟨rfl, Int.le_refl _, Int.le_refl _, Int.le_refl _, by simp [ord0, up]⟩⟩
theorem new_eq {v : Int} (h0 : 0 ≤ v) (h1 : v < 1000000) (m : Nat) (hm : 10 ≤ m) : topo_NewFleet m ([0, 1, 2, 3] : List Int) v = some (⟨v, 0, 0, false, [], [ord0 v 0, ord0 v 1, ord0 v 2, ord0 v 3]⟩, 0) := by
  unfold topo_NewFleet
  have e : iter (topo_NewFleet_L1 [0, 1, 2, 3] v) m (0, []) = some (.go [ord0 v 0, ord0 v 1, ord0 v 2, ord0 v 3]) := by
    refine run4 (s1 := (1, [ord0 v 0])) (s2 := (2, [ord0 v 0, ord0 v 1])) (s3 := (3, [ord0 v 0, ord0 v 1, ord0 v 2])) (s4 := (4, [ord0 v 0, ord0 v 1, ord0 v 2, ord0 v 3])) ?_ ?_ ?_ ?_ ?_ m hm <;> unfold topo_NewFleet_L1 <;> rfl
  rw [e, bindJ_go]
  unfold topo_change
  rw [(new_fi h0 h1).valid m hm]
  simp only [obind, Option.bind_some, Bool.not_true, cond_false]
  rw [clone_eq _ (by simp)]
  rfl
/-- change, where the fleet is as it must be -/
theorem FI.len {F : S_api_Fleet} {c : Option (Nat → Nat)} {o : Nat → S_api_Order} (h : FI F c o) : F.Orders.length ≤ 1000 := by rw [h.ord]; simp
/-! Begin -/
theorem begin_loop {f : Nat → Nat} (m : Nat) (hm : 10 ≤ m) : iter (topo_Begin_1_63_L1 (stg (f 0) (f 1) (f 2) (f 3))) m (0, []) = some (.go (stg (f 0) (f 1) (f 2) (f 3))) := by
  obtain ⟨k, rfl⟩ : ∃ k, m = k + 4 := ⟨m - 4, by omega⟩
  have st : ∀ (i : Nat), i < 3 → topo_Begin_1_63_L1 (stg (f 0) (f 1) (f 2) (f 3)) ((i : Int), (stg (f 0) (f 1) (f 2) (f 3)).take i) = some (.go (((i + 1 : Nat) : Int), (stg (f 0) (f 1) (f 2) (f 3)).take (i + 1))) := fun i hi => by
    unfold topo_Begin_1_63_L1
    have hl := stg_len (f 0) (f 1) (f 2) (f 3)
    have e : decide ((i : Int) < ((stg (f 0) (f 1) (f 2) (f 3)).length : Int)) = true := by rw [hl]; simp; omega
    simp only [e, cond_true]
    have hx := List.getElem?_eq_getElem (show i < (stg (f 0) (f 1) (f 2) (f 3)).length by omega)
    have h4 := (in_stg (f := f) (s := i) hi (i := 0) (by decide) hx).2
    rw [idx_get hx, clone2_eq _ (by omega)]
    simp only [obind, Option.bind_some]
    rw [need_pos (by simp; omega), w64 (by omega) (by omega), List.take_add_one, hx]
    simp
  have s0 := st 0 (by decide); have s1 := st 1 (by decide); have s2 := st 2 (by decide)
  have s3 : topo_Begin_1_63_L1 (stg (f 0) (f 1) (f 2) (f 3)) (((2 + 1 : Nat) : Int), (stg (f 0) (f 1) (f 2) (f 3)).take (2 + 1)) = some (.stop (.go (stg (f 0) (f 1) (f 2) (f 3)))) := by
    unfold topo_Begin_1_63_L1
    rw [stg_len]
    simp [show (stg (f 0) (f 1) (f 2) (f 3)).take 3 = stg (f 0) (f 1) (f 2) (f 3) from rfl]
  have e0 : ((0 : Int), ([] : List (List Int))) = (((0 : Nat) : Int), (stg (f 0) (f 1) (f 2) (f 3)).take 0) := by simp
  rw [e0, iter_go s0, iter_go s1, iter_go s2, iter_stop s3]
theorem begin_eq {F : S_api_Fleet} {c : Option (Nat → Nat)} {o : Nat → S_api_Order} (h : FI F c o) {f : Nat → Nat} (hf : ∀ i, f i < 3) (m : Nat) (hm : 10 ≤ m) :
    (c = none ∧ Sett o ∧ topo_Begin m F (stg (f 0) (f 1) (f 2) (f 3)) = some ({ F with Stages := stg (f 0) (f 1) (f 2) (f 3) }, 0)) ∨ topo_Begin m F (stg (f 0) (f 1) (f 2) (f 3)) = some (⟨0, 0, 0, false, [], []⟩, 4) := by
  have hb1 := h.b1
  unfold topo_Begin topo_change_v1
  rw [h.valid m hm]
  simp only [obind, Option.bind_some, Bool.not_true, cond_false]
  rw [clone_eq _ h.len]
  simp only [Option.bind_some, fl_eta]
  unfold topo_Begin_1_63
  rw [settled_eq h.ord m hm]
  cases c with
  | some g =>
    right
    have e : decide (0 < (F.Stages.length : Int)) = true := by have := h.stg; simp only [sts] at this; rw [this, stg_len]; rfl
    simp only [e, cond_true, bindJ_go]
    rfl
  | none =>
    have es := h.stg
    simp only [sts] at es
    have e : decide (0 < (F.Stages.length : Int)) = false := by rw [es]; rfl
    simp only [e, cond_false, obind, Option.bind_some, bindJ_go]
    by_cases hs : Sett o
    · left
      refine ⟨by trivial, hs, ?_⟩
      have e3 : decide (((stg (f 0) (f 1) (f 2) (f 3)).length : Int) = 0) = false := by rw [stg_len]; rfl
      have e4 : decide (F.Base = 1073741823) = false := by simp; omega
      simp only [hs, decide_true, Bool.not_true, cond_false, e3]
      rw [h.ord, parted hf (fun i hi => (h.each i hi).site) m hm]
      simp only [Option.bind_some, bindJ_go, Bool.not_true, cond_false, e4]
      rw [es, need_pos (p := ([] : List (List Int)).length = 0) rfl, begin_loop m hm, bindJ_go, need_pos (by rw [stg_len]; decide)]
      simp [h.ord]
    · right
      simp [hs]
theorem begin_fi {F : S_api_Fleet} {o : Nat → S_api_Order} (h : FI F none o) {f : Nat → Nat} (hf : ∀ i, f i < 3) : FI { F with Stages := stg (f 0) (f 1) (f 2) (f 3) } (some f) o ∧ F.Done = 0 := by
  have hn0 := h.n0
  have hd : F.Done = 0 := by have h1 := h.n1; have e := h.stg; simp only [sts] at e; rw [e] at h1; simp at h1; omega
  refine ⟨⟨h.b0, h.b1, h.s0, h.s1, h.n0, by simp only [stg_len]; omega, rfl, fun g hg i => by cases hg; exact hf i, h.ord, fun i hi => ?_⟩, hd⟩
  have k := h.each i hi
  refine ⟨k.site, k.h0, k.hs, k.sf, ?_⟩
  rw [k.ver, hd]
  have : up (some f) 0 i = false := by simp [up]
  simp only [this]; rfl
/-! orders -/
def ordd (f : Nat → Nat) (s : Nat) (v n : Int) (o : Nat → S_api_Order) (i : Nat) : S_api_Order := if f i = s then ⟨(o i).Site, v, n, (o i).Heard⟩ else o i
theorem order_eq {F : S_api_Fleet} {f : Nat → Nat} {o : Nat → S_api_Order} (ho : F.Orders = [o 0, o 1, o 2, o 3]) (hst : F.Stages = stg (f 0) (f 1) (f 2) (f 3)) (hsite : ∀ i, i < 4 → (o i).Site = i) (hs0 : 0 ≤ F.Serial) (hs1 : F.Serial ≤ 1000000) {s : Nat} (hs : s < 3) (v : Int) (m : Nat) (hm : 10 ≤ m) :
    topo_order m F (s : Int) v = some (0, { F with Serial := F.Serial + 1, Orders := [ordd f s v (F.Serial + 1) o 0, ordd f s v (F.Serial + 1) o 1, ordd f s v (F.Serial + 1) o 2, ordd f s v (F.Serial + 1) o 3] }) := by
  have hx := List.getElem?_eq_getElem (show s < (stg (f 0) (f 1) (f 2) (f 3)).length by rw [stg_len]; omega)
  generalize hl : (stg (f 0) (f 1) (f 2) (f 3))[s]'(by rw [stg_len]; omega) = l at hx
  unfold topo_order
  have e1 : decide (F.Serial = 1099511627776) = false := by simp; omega
  rw [e1, cond_false, ho]
  have st : ∀ (i : Nat) (x : List S_api_Order) (y : List S_api_Order), i < 4 → x[i]? = some (o i) → y = x.set i (ordd f s v (F.Serial + 1) o i) → topo_order_L1 m F (s : Int) v ((i : Int), x) = some (.go (((i + 1 : Nat) : Int), y)) := fun i x y hi hxi hy => by
    unfold topo_order_L1
    have e : decide ((i : Int) < (F.Orders.length : Int)) = true := by rw [ho]; simp; omega
    have hm4 := in_stg (f := f) (s := s) hs hi hx
    have hlen := (List.getElem?_eq_some_iff.1 hxi).1
    have he := (List.getElem?_eq_some_iff.1 hxi).2
    simp only [e, cond_true]
    rw [idx_get hxi, hst, idx_get hx, hsite i hi, contains_eq _ _ m (by omega) (by omega)]
    simp only [obind, Option.bind_some]
    rw [w64 (x := F.Serial + 1) (by omega) (by omega), w64 (x := (i : Int) + 1) (by omega) (by omega)]
    by_cases hq : f i = s
    · have : decide ((i : Int) ∈ l) = true := by simpa using hm4.1.2 hq
      rw [this, cond_true, bindJ_go, hy]
      unfold ordd
      rw [if_pos hq, hsite i hi]
      simp
    · have : decide ((i : Int) ∈ l) = false := by simpa using fun q => hq (hm4.1.1 q)
      rw [this, cond_false, bindJ_go, hy]
      unfold ordd
      rw [if_neg hq]
      have : x.set i (o i) = x := by rw [← he]; exact List.set_getElem_self hlen
      rw [this]; simp
  have e2 := run4 (step := topo_order_L1 m F (s : Int) v) (s0 := (0, [o 0, o 1, o 2, o 3])) (st 0 _ [ordd f s v (F.Serial + 1) o 0, o 1, o 2, o 3] (by decide) rfl rfl) (st 1 _ [ordd f s v (F.Serial + 1) o 0, ordd f s v (F.Serial + 1) o 1, o 2, o 3] (by decide) rfl rfl) (st 2 _ [ordd f s v (F.Serial + 1) o 0, ordd f s v (F.Serial + 1) o 1, ordd f s v (F.Serial + 1) o 2, o 3] (by decide) rfl rfl) (st 3 _ [ordd f s v (F.Serial + 1) o 0, ordd f s v (F.Serial + 1) o 1, ordd f s v (F.Serial + 1) o 2, ordd f s v (F.Serial + 1) o 3] (by decide) rfl rfl) (r := .go [ordd f s v (F.Serial + 1) o 0, ordd f s v (F.Serial + 1) o 1, ordd f s v (F.Serial + 1) o 2, ordd f s v (F.Serial + 1) o 3]) (by unfold topo_order_L1; rw [ho]; simp) m hm
  rw [e2, bindJ_go, w64 (by omega) (by omega)]
end Go.Proofs.Ytigiikkenamneaa
namespace Go.Proofs.Ytigiikkenamneaa
open Go.Abs
set_option linter.unusedSimpArgs false
set_option linter.unusedVariables false
theorem ordd_site {f : Nat → Nat} {s : Nat} {v n : Int} {o : Nat → S_api_Order} {i : Nat} : (ordd f s v n o i).Site = (o i).Site := by unfold ordd; split <;> rfl
theorem ordd_heard {f : Nat → Nat} {s : Nat} {v n : Int} {o : Nat → S_api_Order} {i : Nat} : (ordd f s v n o i).Heard = (o i).Heard := by unfold ordd; split <;> rfl
/-- the fleet after an order -/
def fo (F : S_api_Fleet) (d : Int) (f : Nat → Nat) (s : Nat) (v : Int) (o : Nat → S_api_Order) : S_api_Fleet :=
  { F with Done := d, Serial := F.Serial + 1, Orders := [ordd f s v (F.Serial + 1) o 0, ordd f s v (F.Serial + 1) o 1, ordd f s v (F.Serial + 1) o 2, ordd f s v (F.Serial + 1) o 3] }
theorem fo_fi {F : S_api_Fleet} {f : Nat → Nat} {o : Nat → S_api_Order} (h : FI F (some f) o) (hs : F.Serial < 1000000) {d : Int} (d0 : 0 ≤ d) (d3 : d ≤ 3) {s : Nat} {v : Int} (hv : ∀ i, i < 4 → (if f i = s then v = F.Base + (if (f i : Int) < d then 1 else 0) else ((f i : Int) < F.Done ↔ (f i : Int) < d))) : FI (fo F d f s v o) (some f) (ordd f s v (F.Serial + 1) o) := by
  have es := h.stg
  simp only [sts] at es
  have hs0 := h.s0
  refine ⟨h.b0, h.b1, by simp only [fo]; omega, by simp only [fo]; omega, d0, by simp only [fo, es, stg_len]; omega, h.stg, h.dig, rfl, fun i hi => ?_⟩
  have k := h.each i hi
  have k1 := k.hs; have k2 := k.sf; have k0 := k.h0; have kv := k.ver
  refine ⟨by rw [ordd_site]; exact k.site, by rw [ordd_heard]; exact k.h0, ?_, ?_, ?_⟩
  · rw [ordd_heard]; unfold ordd; split <;> (try simp only) <;> omega
  · unfold ordd fo; split <;> (try simp only) <;> omega
  · have hvi := hv i hi
    unfold ordd fo
    by_cases e : f i = s
    · rw [if_pos e] at hvi ⊢
      simp only [up, hvi]
      by_cases q : (f i : Int) < d <;> simp [q]
    · rw [if_neg e] at hvi ⊢
      simp only [kv, up]
      by_cases q : (f i : Int) < d
      · have := hvi.2 q; simp [q, this]
      · have : ¬ (f i : Int) < F.Done := fun z => q (hvi.1 z)
        simp [q, this]
/-! Forward -/
theorem forward_eq {F : S_api_Fleet} {c : Option (Nat → Nat)} {o : Nat → S_api_Order} (h : FI F c o) (hs : F.Serial < 1000000) (m : Nat) (hm : 10 ≤ m) :
    (∃ f, c = some f ∧ F.Done < 3 ∧ F.Stopped = false ∧ Sett o ∧ topo_Forward m F = some (fo F (F.Done + 1) f F.Done.toNat (F.Base + 1) o, 0)) ∨
    (¬ (F.Done < (F.Stages.length : Int) ∧ F.Stopped = false ∧ Sett o) ∧ topo_Forward m F = some (⟨0, 0, 0, false, [], []⟩, 4)) := by
  have hb1 := h.b1; have hb0 := h.b0; have hn0 := h.n0; have hn1 := h.n1
  unfold topo_Forward topo_change_v2
  rw [h.valid m hm]
  simp only [obind, Option.bind_some, Bool.not_true, cond_false]
  rw [clone_eq _ h.len]
  simp only [Option.bind_some, fl_eta]
  unfold topo_Forward_1_60
  rw [settled_eq h.ord m hm]
  by_cases hd : F.Done = (F.Stages.length : Int)
  · right
    refine ⟨fun q => by omega, ?_⟩
    simp [hd]
  · by_cases hst : F.Stopped = true
    · right
      refine ⟨fun q => by rw [hst] at q; simp at q, ?_⟩
      simp [hst]
    · have hst' : F.Stopped = false := by simpa using hst
      by_cases hse : Sett o
      · left
        cases c with
        | none =>
          have es := h.stg
          simp only [sts] at es
          rw [es] at hn1 hd
          simp at hn1 hd; omega
        | some f =>
          have es := h.stg
          simp only [sts] at es
          rw [es, stg_len] at hn1 hd
          refine ⟨f, rfl, by omega, hst', hse, ?_⟩
          have e1 : decide (F.Done = (F.Stages.length : Int)) = false := by rw [es, stg_len]; simpa using hd
          rw [e1, hst']
          simp only [Bool.false_or, cond_false, obind, Option.bind_some, hse, decide_true, Bool.not_true, bindJ_go]
          rw [w64 (x := F.Done + 1) (by omega) (by omega), w64 (x := F.Done + 1 - 1) (by omega) (by omega), w64 (by omega) (by omega), show F.Done + 1 - 1 = ((F.Done.toNat : Nat) : Int) by omega]
          rw [order_eq (F := ⟨F.Base, F.Done + 1, F.Serial, false, F.Stages, F.Orders⟩) (f := f) (o := o) h.ord es (fun i hi => (h.each i hi).site) h.s0 h.s1 (s := F.Done.toNat) (by omega) _ m hm]
          unfold fo
          rw [hst']
          rfl
      · right
        refine ⟨fun q => hse q.2.2, ?_⟩
        simp [hd, hst', hse, obind]
theorem forward_fi {F : S_api_Fleet} {f : Nat → Nat} {o : Nat → S_api_Order} (h : FI F (some f) o) (hs : F.Serial < 1000000) (hd : F.Done < 3) : FI (fo F (F.Done + 1) f F.Done.toNat (F.Base + 1) o) (some f) (ordd f F.Done.toNat (F.Base + 1) (F.Serial + 1) o) := by
  have hn0 := h.n0
  refine fo_fi h hs (by omega) (by omega) fun i hi => ?_
  split
  · rw [if_pos (by omega)]
  · omega
/-! Retreat -/
theorem retreat_eq {F : S_api_Fleet} {c : Option (Nat → Nat)} {o : Nat → S_api_Order} (h : FI F c o) (hs : F.Serial < 1000000) (m : Nat) (hm : 10 ≤ m) :
    (∃ f, c = some f ∧ 0 < F.Done ∧ topo_Retreat m F = some (fo F (F.Done - 1) f (F.Done - 1).toNat F.Base o, 0)) ∨ (F.Done = 0 ∧ topo_Retreat m F = some (⟨0, 0, 0, false, [], []⟩, 4)) := by
  have hb1 := h.b1; have hb0 := h.b0; have hn0 := h.n0; have hn1 := h.n1
  unfold topo_Retreat topo_change_v4
  rw [h.valid m hm]
  simp only [obind, Option.bind_some, Bool.not_true, cond_false]
  rw [clone_eq _ h.len]
  simp only [Option.bind_some, fl_eta]
  unfold topo_Retreat_1_58
  by_cases hd : F.Done = 0
  · right
    refine ⟨hd, ?_⟩
    simp [hd]
  · left
    cases c with
    | none =>
      have es := h.stg
      simp only [sts] at es
      rw [es] at hn1
      simp at hn1; omega
    | some f =>
      have es := h.stg
      simp only [sts] at es
      rw [es, stg_len] at hn1
      refine ⟨f, rfl, by omega, ?_⟩
      have e1 : decide (F.Done = 0) = false := by simpa using hd
      rw [e1]
      simp only [cond_false]
      rw [w64 (x := F.Done - 1) (by omega) (by omega), show F.Done - 1 = (((F.Done - 1).toNat : Nat) : Int) by omega]
      rw [order_eq (F := ⟨F.Base, (((F.Done - 1).toNat : Nat) : Int), F.Serial, F.Stopped, F.Stages, F.Orders⟩) (f := f) (o := o) h.ord es (fun i hi => (h.each i hi).site) h.s0 h.s1 (s := (F.Done - 1).toNat) (by omega) _ m hm]
      simp [obind, fo, Int.toNat_natCast]
theorem retreat_fi {F : S_api_Fleet} {f : Nat → Nat} {o : Nat → S_api_Order} (h : FI F (some f) o) (hs : F.Serial < 1000000) (hd : 0 < F.Done) : FI (fo F (F.Done - 1) f (F.Done - 1).toNat F.Base o) (some f) (ordd f (F.Done - 1).toNat F.Base (F.Serial + 1) o) := by
  have hn0 := h.n0; have hn1 := h.n1
  have es := h.stg
  simp only [sts] at es
  rw [es, stg_len] at hn1
  refine fo_fi h hs (by omega) (by omega) fun i hi => ?_
  split
  · rw [if_neg (by omega)]; omega
  · omega
/-! Stop -/
theorem stop_eq {F : S_api_Fleet} {c : Option (Nat → Nat)} {o : Nat → S_api_Order} (h : FI F c o) (b : Bool) (m : Nat) (hm : 10 ≤ m) : topo_Stop m F b = some ({ F with Stopped := b }, 0) ∧ FI { F with Stopped := b } c o := by
  constructor
  · unfold topo_Stop topo_change_v5
    rw [h.valid m hm]
    simp only [obind, Option.bind_some, Bool.not_true, cond_false]
    rw [clone_eq _ h.len]
    simp [topo_Stop_1_53]
  · exact ⟨h.b0, h.b1, h.s0, h.s1, h.n0, h.n1, h.stg, h.dig, h.ord, fun i hi => let k := h.each i hi; ⟨k.site, k.h0, k.hs, k.sf, k.ver⟩⟩
/-! End -/
def fe (F : S_api_Fleet) : S_api_Fleet := ⟨if 0 < F.Done then F.Base + 1 else F.Base, 0, F.Serial, false, [], F.Orders⟩
theorem end_eq {F : S_api_Fleet} {c : Option (Nat → Nat)} {o : Nat → S_api_Order} (h : FI F c o) (m : Nat) (hm : 10 ≤ m) :
    (∃ f, c = some f ∧ Sett o ∧ (F.Done = 0 ∨ F.Done = 3) ∧ topo_End m F = some (fe F, 0)) ∨ (¬ (0 < F.Stages.length ∧ Sett o ∧ (F.Done = 0 ∨ F.Done = 3)) ∧ topo_End m F = some (⟨0, 0, 0, false, [], []⟩, 4)) := by
  have hb1 := h.b1; have hb0 := h.b0; have hn0 := h.n0; have hn1 := h.n1
  unfold topo_End topo_change_v6
  rw [h.valid m hm]
  simp only [obind, Option.bind_some, Bool.not_true, cond_false]
  rw [clone_eq _ h.len]
  simp only [Option.bind_some, fl_eta]
  unfold topo_End_1_61
  rw [settled_eq h.ord m hm]
  cases c with
  | none =>
    right
    have es := h.stg
    simp only [sts] at es
    refine ⟨fun q => by rw [es] at q; simp at q, ?_⟩
    simp [es, obind]
  | some f =>
    have es := h.stg
    simp only [sts] at es
    have e0 : decide ((F.Stages.length : Int) = 0) = false := by rw [es, stg_len]; rfl
    rw [es, stg_len] at hn1
    simp only [e0, cond_false, obind, Option.bind_some, bindJ_go]
    by_cases hse : Sett o
    · simp only [hse, decide_true, Bool.not_true, Bool.false_or, true_and]
      by_cases hd : F.Done = 0 ∨ F.Done = 3
      · left
        have e1 : (decide (0 < F.Done) && decide (F.Done < (F.Stages.length : Int))) = false := by rw [es, stg_len]; simp; omega
        refine ⟨f, rfl, hd, ?_⟩
        rw [e1, cond_false, w64 (by omega) (by omega)]
        unfold fe
        by_cases q : 0 < F.Done <;> simp [q]
      · right
        have e1 : (decide (0 < F.Done) && decide (F.Done < (F.Stages.length : Int))) = true := by rw [es, stg_len]; simp; omega
        refine ⟨fun q => hd q.2, ?_⟩
        rw [e1]; simp
    · right
      refine ⟨fun q => hse q.2.1, ?_⟩
      simp [hse]
theorem end_fi {F : S_api_Fleet} {f : Nat → Nat} {o : Nat → S_api_Order} (h : FI F (some f) o) (hd : F.Done = 0 ∨ F.Done = 3) (hb : F.Base < 999999999) : FI (fe F) none o := by
  have hb0 := h.b0
  refine ⟨by simp only [fe]; split <;> omega, by simp only [fe]; split <;> omega, h.s0, h.s1, by simp [fe], by simp [fe], rfl, (fun f h => by cases h), h.ord, fun i hi => ?_⟩
  have k := h.each i hi
  refine ⟨k.site, k.h0, k.hs, k.sf, ?_⟩
  have hf := h.dig f rfl i
  rw [k.ver]
  simp only [up, fe]
  rcases hd with e | e <;> rw [e] <;> simp <;> omega
/-! OrderOf -/
theorem orderOf_eq {F : S_api_Fleet} {c : Option (Nat → Nat)} {o : Nat → S_api_Order} (h : FI F c o) {i : Nat} (hi : i < 4) (m : Nat) (hm : 10 ≤ m) : topo_OrderOf m F (i : Int) = some (⟨(i : Int), (o i).Version, (o i).Serial⟩, 0) := by
  obtain ⟨k, rfl⟩ : ∃ k, m = k + 5 := ⟨m - 5, by omega⟩
  unfold topo_OrderOf
  rw [h.valid _ hm]
  simp only [obind, Option.bind_some, Bool.not_true, cond_false]
  have st : ∀ (j : Nat), ([o 0, o 1, o 2, o 3] : List S_api_Order)[j]? = some (o j) → j < 4 → topo_OrderOf_L1 F (i : Int) (j : Int) = if j = i then some (.stop (.stop (⟨(i : Int), (o j).Version, (o j).Serial⟩, 0))) else some (.go ((j + 1 : Nat) : Int)) := fun j hx hj => by
    unfold topo_OrderOf_L1
    rw [h.ord]
    have e : decide ((j : Int) < (([o 0, o 1, o 2, o 3] : List S_api_Order).length : Int)) = true := by simp; omega
    simp only [e, cond_true]
    rw [idx_get hx, w64 (by omega) (by omega), (h.each j hj).site]
    by_cases h : j = i
    · simp [h]
    · have : ¬ ((j : Int) = (i : Int)) := by omega
      simp [h, this]
  have s0 := st 0 rfl (by decide); have s1 := st 1 rfl (by decide); have s2 := st 2 rfl (by decide); have s3 := st 3 rfl (by decide)
  have key : iter (topo_OrderOf_L1 F (i : Int)) (k + 5) ((0 : Nat) : Int) = some (.stop (⟨(i : Int), (o i).Version, (o i).Serial⟩, 0)) := by
    match i, hi with
    | 0, _ => exact iter_stop s0
    | 1, _ => rw [iter_go s0]; exact iter_stop s1
    | 2, _ => rw [iter_go s0, iter_go s1]; exact iter_stop s2
    | 3, _ => rw [iter_go s0, iter_go s1, iter_go s2]; exact iter_stop s3
  have key' : iter (topo_OrderOf_L1 F (i : Int)) (k + 5) 0 = some (.stop (⟨(i : Int), (o i).Version, (o i).Serial⟩, 0)) := key
  rw [key']; rfl
/-! Confirm -/
def oc (o : Nat → S_api_Order) (i : Nat) (n : Int) (j : Nat) : S_api_Order := if j = i then ⟨(o j).Site, (o j).Version, (o j).Serial, max (o j).Heard n⟩ else o j
def fc (F : S_api_Fleet) (o : Nat → S_api_Order) (i : Nat) (n : Int) : S_api_Fleet := { F with Orders := [oc o i n 0, oc o i n 1, oc o i n 2, oc o i n 3] }
theorem confirm_eq {F : S_api_Fleet} {c : Option (Nat → Nat)} {o : Nat → S_api_Order} (h : FI F c o) {i : Nat} (hi : i < 4) {n : Int} (n0 : 0 ≤ n) (n1 : n ≤ (o i).Serial) (m : Nat) (hm : 10 ≤ m) : topo_Confirm m F (i : Int) n = some (fc F o i n, 0) := by
  unfold topo_Confirm topo_change_v3
  rw [h.valid m hm]
  simp only [obind, Option.bind_some, Bool.not_true, cond_false]
  rw [clone_eq _ h.len]
  simp only [Option.bind_some, fl_eta]
  unfold topo_Confirm_1_54
  rw [h.ord, site_index (fun j hj => (h.each j hj).site) hi m hm]
  have hx : ([o 0, o 1, o 2, o 3] : List S_api_Order)[i]? = some (o i) := by
    match i, hi with
    | 0, _ => rfl
    | 1, _ => rfl
    | 2, _ => rfl
    | 3, _ => rfl
  have e1 : decide ((i : Int) < 0) = false := by simp
  have e2 : decide (n < 0) = false := by simp; omega
  have e3 : decide ((o i).Serial < n) = false := by simp; omega
  simp only [obind, Option.bind_some, e1, cond_false, e2, idx_get hx, e3, bindJ_go]
  have hset : ([o 0, o 1, o 2, o 3] : List S_api_Order).set ((i : Int)).toNat ⟨(o i).Site, (o i).Version, (o i).Serial, max (o i).Heard n⟩ = [oc o i n 0, oc o i n 1, oc o i n 2, oc o i n 3] := by
    rw [Int.toNat_natCast]
    match i, hi with
    | 0, _ => rfl
    | 1, _ => rfl
    | 2, _ => rfl
    | 3, _ => rfl
  rw [hset]
  rfl
theorem confirm_fi {F : S_api_Fleet} {c : Option (Nat → Nat)} {o : Nat → S_api_Order} (h : FI F c o) {i : Nat} {n : Int} (n0 : 0 ≤ n) (n1 : n ≤ (o i).Serial) : FI (fc F o i n) c (oc o i n) := by
  refine ⟨h.b0, h.b1, h.s0, h.s1, h.n0, h.n1, h.stg, h.dig, rfl, fun j hj => ?_⟩
  have k := h.each j hj
  have k0 := k.h0; have k1 := k.hs; have k2 := k.sf
  unfold oc
  by_cases e : j = i
  · subst e
    rw [if_pos rfl]
    exact ⟨k.site, by simp only; omega, by simp only; omega, k.sf, k.ver⟩
  · rw [if_neg e]; exact ⟨k.site, k.h0, k.hs, k.sf, k.ver⟩
end Go.Proofs.Ytigiikkenamneaa
namespace Go.Proofs.Ytigiikkenamneaa
open Go.Abs
set_option linter.unusedSimpArgs false
set_option linter.unusedVariables false
/-- a site's node, a message that was sent, a message that was told -/
def NI (B : Int) (o : S_api_Order) (x : S_api_Node) (i : Nat) : Prop := x.Site = i ∧ o.Heard ≤ x.Serial ∧ x.Serial ≤ o.Serial ∧ (x.Serial = o.Serial → x.Version = o.Version) ∧ B ≤ x.Version ∧ x.Version ≤ B + 1
def SI (B : Int) (o : Nat → S_api_Order) (x : S_api_Node) : Prop := ∃ i : Nat, i < 4 ∧ x.Site = (i : Int) ∧ x.Serial ≤ (o i).Serial ∧ (x.Serial = (o i).Serial → x.Version = (o i).Version) ∧ ((o i).Heard < x.Serial → B ≤ x.Version ∧ x.Version ≤ B + 1)
def TI (nd : Nat → S_api_Node) (x : S_api_Node) : Prop := ∃ i : Nat, i < 4 ∧ x.Site = (i : Int) ∧ 0 ≤ x.Serial ∧ x.Serial ≤ (nd i).Serial
def nodes4 (nd : Nat → S_api_Node) : S_4_api_Node := ⟨nd 0, nd 1, nd 2, nd 3⟩
structure WI (w : S_law42_World) (c : Option (Nat → Nat)) (o : Nat → S_api_Order) (nd : Nat → S_api_Node) (N : Nat) : Prop where
  fi : FI w.F c o
  bb : w.F.Base ≤ 70000 + (N : Int)
  ss : w.F.Serial ≤ (N : Int)
  bad : w.Bad = false
  nodes : w.Nodes = nodes4 nd
  node : ∀ i, i < 4 → NI w.F.Base (o i) (nd i) i
  sent : ∀ x ∈ w.Sent, SI w.F.Base o x
  told : ∀ x ∈ w.Told, TI nd x
  ls : w.Sent.length ≤ N
  lt : w.Told.length ≤ N
theorem WI.more {w : S_law42_World} {c : Option (Nat → Nat)} {o : Nat → S_api_Order} {nd : Nat → S_api_Node} {N : Nat} (h : WI w c o nd N) : WI w c o nd (N + 1) :=
  { h with bb := by have := h.bb; omega, ss := by have := h.ss; omega, ls := by have := h.ls; omega, lt := by have := h.lt; omega }
theorem get4 {nd : Nat → S_api_Node} {i : Nat} (hi : i < 4) : S_4_api_Node.get (nodes4 nd) (i : Int) = nd i := by
  match i, hi with
  | 0, _ => rfl
  | 1, _ => rfl
  | 2, _ => rfl
  | 3, _ => rfl
def upd (nd : Nat → S_api_Node) (i : Nat) (x : S_api_Node) (j : Nat) : S_api_Node := if j = i then x else nd j
theorem put4 {nd : Nat → S_api_Node} {i : Nat} (hi : i < 4) (x : S_api_Node) : S_4_api_Node.put (nodes4 nd) (i : Int) x = nodes4 (upd nd i x) := by
  match i, hi with
  | 0, _ => rfl
  | 1, _ => rfl
  | 2, _ => rfl
  | 3, _ => rfl
/-- later orders -/
def Later (o o' : Nat → S_api_Order) : Prop := ∀ i, i < 4 → o' i = o i ∨ ((o' i).Heard = (o i).Heard ∧ (o i).Serial < (o' i).Serial)
theorem later_ordd {F : S_api_Fleet} {c : Option (Nat → Nat)} {o : Nat → S_api_Order} (h : FI F c o) (f : Nat → Nat) (s : Nat) (v : Int) : Later o (ordd f s v (F.Serial + 1) o) := fun i hi => by
  have := (h.each i hi).sf
  by_cases e : f i = s
  · right
    refine ⟨ordd_heard, ?_⟩
    unfold ordd; rw [if_pos e]; simp only; omega
  · left; unfold ordd; rw [if_neg e]
theorem later_ni {B : Int} {o o' : Nat → S_api_Order} (h : Later o o') {x : S_api_Node} {i : Nat} (hi : i < 4) (k : NI B (o i) x i) : NI B (o' i) x i := by
  rcases h i hi with e | ⟨e1, e2⟩
  · rw [e]; exact k
  · obtain ⟨k1, k2, k3, k4, k5, k6⟩ := k
    exact ⟨k1, by omega, by omega, fun q => by omega, k5, k6⟩
theorem later_si {B : Int} {o o' : Nat → S_api_Order} (h : Later o o') {x : S_api_Node} (k : SI B o x) : SI B o' x := by
  obtain ⟨i, hi, k1, k2, k3, k4⟩ := k
  refine ⟨i, hi, k1, ?_⟩
  rcases h i hi with e | ⟨e1, e2⟩
  · rw [e]; exact ⟨k2, k3, k4⟩
  · exact ⟨by omega, fun q => by omega, fun q => k4 (by omega)⟩
theorem WI.fleet {w : S_law42_World} {c c' : Option (Nat → Nat)} {o o' : Nat → S_api_Order} {nd : Nat → S_api_Node} {N : Nat} (h : WI w c o nd N) {F' : S_api_Fleet} (hF : FI F' c' o') (hb : F'.Base = w.F.Base) (hs : F'.Serial ≤ w.F.Serial + 1) (hl : Later o o') : WI { w with F := F' } c' o' nd (N + 1) :=
  ⟨hF, by have := h.bb; simp only [hb]; omega, by have := h.ss; simp only; omega, h.bad, h.nodes, fun i hi => by simp only [hb]; exact later_ni hl hi (h.node i hi), fun x hx => by simp only [hb]; exact later_si hl (h.sent x hx), h.told, by have := h.ls; simp only; omega, by have := h.lt; simp only; omega⟩
theorem change_ok {w : S_law42_World} (f : S_api_Fleet) : law42_change w f 0 = some { w with F := f } := by
  unfold law42_change; simp
theorem change_no {w : S_law42_World} (f : S_api_Fleet) : law42_change w f 4 = some w := by
  unfold law42_change; simp
theorem tm4 {n : Int} (h0 : 0 ≤ n) (h1 : n < 256) : ∃ i : Nat, i < 4 ∧ (IntKind.i64.wrap n).tmod 4 = (i : Int) := by
  rw [w64 (by omega) (by omega)]
  exact ⟨(n % 4).toNat, by omega, by rw [Int.tmod_eq_emod_of_nonneg h0]; omega⟩
theorem tml {n : Int} (h0 : 0 ≤ n) (h1 : n < 256) {l : Nat} (hl : 0 < l) : ∃ i : Nat, i < l ∧ (IntKind.i64.wrap n).tmod (l : Int) = (i : Int) := by
  rw [w64 (by omega) (by omega)]
  refine ⟨n.toNat % l, Nat.mod_lt _ hl, ?_⟩
  rw [Int.tmod_eq_emod_of_nonneg h0]
  conv => lhs; rw [show n = ((n.toNat : Nat) : Int) by omega]
  rfl
theorem apply_eq (x y : S_api_Node) : topo_Apply x y = some (if y.Site ≠ x.Site ∨ y.Serial ≤ x.Serial then x else y) := by
  unfold topo_Apply
  by_cases h1 : y.Site = x.Site <;> by_cases h2 : y.Serial ≤ x.Serial <;> simp [h1, h2]
theorem apply_ni {B : Int} {o : Nat → S_api_Order} {x y : S_api_Node} {i : Nat} (hx : NI B (o i) x i) (hy : SI B o y) (hs : y.Site = (i : Int)) : NI B (o i) (if y.Site ≠ x.Site ∨ y.Serial ≤ x.Serial then x else y) i ∧ x.Serial ≤ (if y.Site ≠ x.Site ∨ y.Serial ≤ x.Serial then x else y).Serial := by
  by_cases c : y.Site ≠ x.Site ∨ y.Serial ≤ x.Serial
  · rw [if_pos c]; exact ⟨hx, Int.le_refl _⟩
  · rw [if_neg c]
    obtain ⟨j, hj, k1, k2, k3, k4⟩ := hy
    have : j = i := by omega
    subst this
    obtain ⟨a1, a2, a3, a4, a5, a6⟩ := hx
    have hlt : x.Serial < y.Serial := by
      refine Classical.byContradiction fun q => c (.inr (by omega))
    have := k4 (by omega)
    exact ⟨⟨hs, by omega, k2, k3, this.1, this.2⟩, by omega⟩
theorem oc_i {o : Nat → S_api_Order} {i : Nat} {n : Int} {j : Nat} : (oc o i n j).Serial = (o j).Serial ∧ (oc o i n j).Version = (o j).Version ∧ (o j).Heard ≤ (oc o i n j).Heard := by
  unfold oc
  split
  · exact ⟨rfl, rfl, by simp only; omega⟩
  · exact ⟨rfl, rfl, Int.le_refl _⟩
theorem WI.confirm {w : S_law42_World} {c : Option (Nat → Nat)} {o : Nat → S_api_Order} {nd : Nat → S_api_Node} {N : Nat} (h : WI w c o nd N) {i : Nat} (hi : i < 4) {n : Int} (n0 : 0 ≤ n) (n1 : n ≤ (nd i).Serial) : WI { w with F := fc w.F o i n } c (oc o i n) nd (N + 1) := by
  have hn := h.node
  refine ⟨confirm_fi h.fi n0 (by have := (hn i hi).2.2.1; omega), by have := h.bb; simp only [fc]; omega, by have := h.ss; simp only [fc]; omega, h.bad, h.nodes, fun j hj => ?_, fun x hx => ?_, h.told, by have := h.ls; simp only; omega, by have := h.lt; simp only; omega⟩
  · obtain ⟨k1, k2, k3, k4, k5, k6⟩ := hn j hj
    obtain ⟨e1, e2, e3⟩ := oc_i (o := o) (i := i) (n := n) (j := j)
    refine ⟨k1, ?_, by omega, fun q => by rw [e2]; exact k4 (by omega), k5, k6⟩
    unfold oc
    by_cases e : j = i
    · subst e; rw [if_pos rfl]; simp only; omega
    · rw [if_neg e]; exact k2
  · obtain ⟨j, hj, k1, k2, k3, k4⟩ := h.sent x hx
    obtain ⟨e1, e2, e3⟩ := oc_i (o := o) (i := i) (n := n) (j := j)
    exact ⟨j, hj, k1, by omega, fun q => by rw [e2]; exact k3 (by omega), fun q => k4 (by omega)⟩
theorem WI.ended {w : S_law42_World} {f : Nat → Nat} {o : Nat → S_api_Order} {nd : Nat → S_api_Node} {N : Nat} (h : WI w (some f) o nd N) (hN : N ≤ 1000) (hs : Sett o) (hd : w.F.Done = 0 ∨ w.F.Done = 3) : WI { w with F := fe w.F } none o nd (N + 1) := by
  have hb := h.bb
  have hv : ∀ i, i < 4 → (o i).Version = (fe w.F).Base := fun i hi => by
    have k := h.fi.each i hi
    have hf := h.fi.dig f rfl i
    rw [k.ver]
    simp only [up, fe]
    rcases hd with e | e <;> rw [e] <;> simp <;> omega
  refine ⟨end_fi h.fi hd (by omega), by simp only [fe]; split <;> omega, by have := h.ss; simp only [fe]; omega, h.bad, h.nodes, fun j hj => ?_, fun x hx => ?_, h.told, by have := h.ls; simp only; omega, by have := h.lt; simp only; omega⟩
  · obtain ⟨k1, k2, k3, k4, k5, k6⟩ := h.node j hj
    have e := hs j hj
    have hvj := hv j hj
    have := k4 (by omega)
    exact ⟨k1, k2, k3, k4, by simp only; omega, by simp only; omega⟩
  · obtain ⟨j, hj, k1, k2, k3, k4⟩ := h.sent x hx
    have e := hs j hj
    exact ⟨j, hj, k1, k2, k3, fun q => by omega⟩
theorem act_wi {w : S_law42_World} {c : Option (Nat → Nat)} {o : Nat → S_api_Order} {nd : Nat → S_api_Node} {N : Nat} (h : WI w c o nd N) (hN : N ≤ 1000) {a : S_law42_Act} (ha : 0 ≤ a.Kind) (hn0 : 0 ≤ a.N) (hn1 : a.N < 256) (m : Nat) (hm : 10 ≤ m) :
    ∃ w' c' o' nd', law42_act m w a = some w' ∧ WI w' c' o' nd' (N + 1) := by
  have hss := h.ss; have hbb := h.bb
  have hk : a.Kind.tmod 9 = 0 ∨ a.Kind.tmod 9 = 1 ∨ a.Kind.tmod 9 = 2 ∨ a.Kind.tmod 9 = 3 ∨ a.Kind.tmod 9 = 4 ∨ a.Kind.tmod 9 = 5 ∨ a.Kind.tmod 9 = 6 ∨ a.Kind.tmod 9 = 7 ∨ a.Kind.tmod 9 = 8 := by
    rw [Int.tmod_eq_emod_of_nonneg ha]; omega
  unfold law42_act
  rcases hk with hk | hk | hk | hk | hk | hk | hk | hk | hk
  · have e0 : decide (a.Kind.tmod 9 = 0) = true := by rw [hk]; rfl
    rw [e0, cond_true]
    rw [w64 (by omega) (by omega)]
    obtain ⟨f, hf, hst⟩ := stages_eq hn0 hn1 m hm
    rw [hst]
    simp only [obind, Option.bind_some]
    rw [need_pos (by rw [stg_len]; decide)]
    rcases begin_eq h.fi hf m hm with ⟨rfl, hse, e⟩ | e
    · rw [e]
      simp only [Option.bind_some, change_ok, bindJ_stop]
      exact ⟨_, _, _, _, rfl, h.fleet (begin_fi h.fi hf).1 rfl (by simp only; omega) (fun i _ => .inl rfl)⟩
    · rw [e]
      simp only [Option.bind_some, change_no, bindJ_stop]
      exact ⟨_, _, _, _, rfl, h.more⟩
  · have e0 : decide (a.Kind.tmod 9 = 0) = false := by rw [hk]; rfl
    have e1 : decide (a.Kind.tmod 9 = 1) = true := by rw [hk]; rfl
    rw [e0, cond_false, e1, cond_true]
    rcases forward_eq h.fi (by omega) m hm with ⟨f, rfl, hd, _, _, e⟩ | ⟨_, e⟩
    · rw [e]
      simp only [obind, Option.bind_some, change_ok, bindJ_stop]
      exact ⟨_, _, _, _, rfl, h.fleet (forward_fi h.fi (by omega) hd) rfl (Int.le_refl _) (later_ordd h.fi _ _ _)⟩
    · rw [e]
      simp only [obind, Option.bind_some, change_no, bindJ_stop]
      exact ⟨_, _, _, _, rfl, h.more⟩
  · have e0 : decide (a.Kind.tmod 9 = 0) = false := by rw [hk]; rfl
    have e1 : decide (a.Kind.tmod 9 = 1) = false := by rw [hk]; rfl
    have e2 : decide (a.Kind.tmod 9 = 2) = true := by rw [hk]; rfl
    rw [e0, cond_false, e1, cond_false, e2, cond_true]
    rcases retreat_eq h.fi (by omega) m hm with ⟨f, rfl, hd, e⟩ | ⟨_, e⟩
    · rw [e]
      simp only [obind, Option.bind_some, change_ok, bindJ_stop]
      exact ⟨_, _, _, _, rfl, h.fleet (retreat_fi h.fi (by omega) hd) rfl (Int.le_refl _) (later_ordd h.fi _ _ _)⟩
    · rw [e]
      simp only [obind, Option.bind_some, change_no, bindJ_stop]
      exact ⟨_, _, _, _, rfl, h.more⟩
  · have e0 : decide (a.Kind.tmod 9 = 0) = false := by rw [hk]; rfl
    have e1 : decide (a.Kind.tmod 9 = 1) = false := by rw [hk]; rfl
    have e2 : decide (a.Kind.tmod 9 = 2) = false := by rw [hk]; rfl
    have e3 : decide (a.Kind.tmod 9 = 3) = true := by rw [hk]; rfl
    rw [e0, cond_false, e1, cond_false, e2, cond_false, e3, cond_true]
    obtain ⟨e, hF⟩ := stop_eq h.fi (decide ((IntKind.i64.wrap a.N).tmod 4 = 0)) m hm
    rw [e]
    simp only [obind, Option.bind_some, change_ok, bindJ_stop]
    exact ⟨_, _, _, _, rfl, h.fleet hF rfl (by simp only; omega) (fun i _ => .inl rfl)⟩
  · have e0 : decide (a.Kind.tmod 9 = 0) = false := by rw [hk]; rfl
    have e1 : decide (a.Kind.tmod 9 = 1) = false := by rw [hk]; rfl
    have e2 : decide (a.Kind.tmod 9 = 2) = false := by rw [hk]; rfl
    have e3 : decide (a.Kind.tmod 9 = 3) = false := by rw [hk]; rfl
    have e4 : decide (a.Kind.tmod 9 = 4) = true := by rw [hk]; rfl
    rw [e0, cond_false, e1, cond_false, e2, cond_false, e3, cond_false, e4, cond_true]
    rcases end_eq h.fi m hm with ⟨f, rfl, hse, hd, e⟩ | ⟨_, e⟩
    · rw [e]
      simp only [obind, Option.bind_some, change_ok, bindJ_stop]
      exact ⟨_, _, _, _, rfl, h.ended hN hse hd⟩
    · rw [e]
      simp only [obind, Option.bind_some, change_no, bindJ_stop]
      exact ⟨_, _, _, _, rfl, h.more⟩
  · have e0 : decide (a.Kind.tmod 9 = 0) = false := by rw [hk]; rfl
    have e1 : decide (a.Kind.tmod 9 = 1) = false := by rw [hk]; rfl
    have e2 : decide (a.Kind.tmod 9 = 2) = false := by rw [hk]; rfl
    have e3 : decide (a.Kind.tmod 9 = 3) = false := by rw [hk]; rfl
    have e4 : decide (a.Kind.tmod 9 = 4) = false := by rw [hk]; rfl
    have e5 : decide (a.Kind.tmod 9 = 5) = true := by rw [hk]; rfl
    rw [e0, cond_false, e1, cond_false, e2, cond_false, e3, cond_false, e4, cond_false, e5, cond_true]
    obtain ⟨i, hi, ei⟩ := tm4 hn0 hn1
    rw [ei, orderOf_eq h.fi hi m hm]
    simp only [obind, Option.bind_some]
    have hls := h.ls
    rw [need_pos (by simp; omega), need_pos (by simp; omega)]
    simp only [bindJ_go]
    have hnd := h.node
    have hk := h.fi.each i hi
    refine ⟨⟨w.F, w.Nodes, w.Sent ++ [⟨(i : Int), (o i).Version, (o i).Serial⟩], w.Told, w.Bad⟩, c, o, nd, by simp, ⟨h.fi, by simp only; omega, by simp only; omega, h.bad, h.nodes, h.node, fun x hx => ?_, h.told, by simp; omega, by have := h.lt; simp only; omega⟩⟩
    rcases List.mem_append.1 hx with hx | hx
    · exact h.sent x hx
    · simp only [List.mem_cons, List.not_mem_nil, or_false] at hx
      subst hx
      refine ⟨i, hi, rfl, Int.le_refl _, fun _ => rfl, fun _ => ?_⟩
      have hv := hk.ver
      simp only
      constructor <;> (rw [hv]; split <;> omega)
  · have e0 : decide (a.Kind.tmod 9 = 0) = false := by rw [hk]; rfl
    have e1 : decide (a.Kind.tmod 9 = 1) = false := by rw [hk]; rfl
    have e2 : decide (a.Kind.tmod 9 = 2) = false := by rw [hk]; rfl
    have e3 : decide (a.Kind.tmod 9 = 3) = false := by rw [hk]; rfl
    have e4 : decide (a.Kind.tmod 9 = 4) = false := by rw [hk]; rfl
    have e5 : decide (a.Kind.tmod 9 = 5) = false := by rw [hk]; rfl
    have e6 : decide (a.Kind.tmod 9 = 6) = true := by rw [hk]; rfl
    rw [e0, cond_false, e1, cond_false, e2, cond_false, e3, cond_false, e4, cond_false, e5, cond_false, e6, cond_true]
    by_cases hl : 0 < w.Sent.length
    · have e : decide (0 < (w.Sent.length : Int)) = true := by rw [decide_eq_true_iff]; omega
      rw [e, cond_true, need_pos (by omega)]
      obtain ⟨j, hj, ej⟩ := tml hn0 hn1 hl
      rw [ej, idx_get' hj]
      have hs := h.sent _ (List.getElem_mem hj)
      generalize w.Sent[j] = y at *
      obtain ⟨i, hi, hsite, _⟩ := id hs
      have hap := apply_ni (h.node i hi) hs hsite
      rw [hsite, need_pos (by omega), h.nodes, get4 hi]
      simp only [obind, Option.bind_some]
      rw [apply_eq]
      simp only [Option.bind_some]
      rw [need_pos (by omega), put4 hi]
      simp only [Option.bind_some, bindJ_go]
      generalize (if y.Site ≠ (nd i).Site ∨ y.Serial ≤ (nd i).Serial then nd i else y) = z at *
      refine ⟨⟨w.F, nodes4 (upd nd i z), w.Sent, w.Told, w.Bad⟩, c, o, upd nd i z, rfl, ⟨h.fi, by simp only; omega, by simp only; omega, h.bad, rfl, fun q hq => ?_, h.sent, fun x hx => ?_, by have := h.ls; simp only; omega, by have := h.lt; simp only; omega⟩⟩
      · unfold upd
        by_cases e : q = i
        · subst e; rw [if_pos rfl]; exact hap.1
        · rw [if_neg e]; exact h.node q hq
      · obtain ⟨q, hq, k1, k2, k3⟩ := h.told x hx
        refine ⟨q, hq, k1, k2, ?_⟩
        unfold upd
        by_cases e : q = i
        · subst e; rw [if_pos rfl]; have := hap.2; omega
        · rw [if_neg e]; exact k3
    · have e : decide (0 < (w.Sent.length : Int)) = false := by rw [decide_eq_false_iff_not]; omega
      rw [e, cond_false, bindJ_go]
      exact ⟨w, _, _, _, rfl, h.more⟩
  · have e0 : decide (a.Kind.tmod 9 = 0) = false := by rw [hk]; rfl
    have e1 : decide (a.Kind.tmod 9 = 1) = false := by rw [hk]; rfl
    have e2 : decide (a.Kind.tmod 9 = 2) = false := by rw [hk]; rfl
    have e3 : decide (a.Kind.tmod 9 = 3) = false := by rw [hk]; rfl
    have e4 : decide (a.Kind.tmod 9 = 4) = false := by rw [hk]; rfl
    have e5 : decide (a.Kind.tmod 9 = 5) = false := by rw [hk]; rfl
    have e6 : decide (a.Kind.tmod 9 = 6) = false := by rw [hk]; rfl
    have e7 : decide (a.Kind.tmod 9 = 7) = true := by rw [hk]; rfl
    rw [e0, cond_false, e1, cond_false, e2, cond_false, e3, cond_false, e4, cond_false, e5, cond_false, e6, cond_false, e7, cond_true]
    obtain ⟨i, hi, ei⟩ := tm4 hn0 hn1
    have hlt := h.lt
    rw [ei, h.nodes, get4 hi, need_pos (by simp; omega), need_pos (by omega)]
    simp only [obind, Option.bind_some]
    rw [need_pos (by simp; omega), bindJ_go]
    refine ⟨⟨w.F, nodes4 nd, w.Sent, w.Told ++ [nd i], w.Bad⟩, c, o, nd, by simp [nodes4], ⟨h.fi, by simp only; omega, by simp only; omega, h.bad, rfl, h.node, h.sent, fun x hx => ?_, by have := h.ls; simp only; omega, by simp; omega⟩⟩
    rcases List.mem_append.1 hx with hx | hx
    · exact h.told x hx
    · simp only [List.mem_cons, List.not_mem_nil, or_false] at hx
      subst hx
      obtain ⟨k1, k2, _⟩ := h.node i hi
      have := (h.fi.each i hi).h0
      exact ⟨i, hi, k1, by omega, Int.le_refl _⟩
  · have e0 : decide (a.Kind.tmod 9 = 0) = false := by rw [hk]; rfl
    have e1 : decide (a.Kind.tmod 9 = 1) = false := by rw [hk]; rfl
    have e2 : decide (a.Kind.tmod 9 = 2) = false := by rw [hk]; rfl
    have e3 : decide (a.Kind.tmod 9 = 3) = false := by rw [hk]; rfl
    have e4 : decide (a.Kind.tmod 9 = 4) = false := by rw [hk]; rfl
    have e5 : decide (a.Kind.tmod 9 = 5) = false := by rw [hk]; rfl
    have e6 : decide (a.Kind.tmod 9 = 6) = false := by rw [hk]; rfl
    have e7 : decide (a.Kind.tmod 9 = 7) = false := by rw [hk]; rfl
    have e8 : decide (a.Kind.tmod 9 = 8) = true := by rw [hk]; rfl
    rw [e0, cond_false, e1, cond_false, e2, cond_false, e3, cond_false, e4, cond_false, e5, cond_false, e6, cond_false, e7, cond_false, e8, cond_true]
    by_cases hl : 0 < w.Told.length
    · have e : decide (0 < (w.Told.length : Int)) = true := by rw [decide_eq_true_iff]; omega
      rw [e, cond_true, need_pos (by omega)]
      obtain ⟨j, hj, ej⟩ := tml hn0 hn1 hl
      rw [ej, idx_get' hj]
      have hs := h.told _ (List.getElem_mem hj)
      generalize w.Told[j] = y at *
      obtain ⟨i, hi, hsite, k1, k2⟩ := hs
      have hnd := h.node i hi
      rw [hsite, confirm_eq h.fi hi k1 (by have := hnd.2.2.1; omega) m hm]
      simp only [obind, Option.bind_some, bindJ_go]
      exact ⟨{ w with F := fc w.F o i y.Serial }, _, _, _, by simp, h.confirm hi k1 k2⟩
    · have e : decide (0 < (w.Told.length : Int)) = false := by rw [decide_eq_false_iff_not]; omega
      rw [e, cond_false, bindJ_go]
      exact ⟨w, _, _, _, rfl, h.more⟩
end Go.Proofs.Ytigiikkenamneaa
namespace Go.Proofs.Ytigiikkenamneaa
open Go.Abs
theorem sane (n : Nat) : law42_sanity (n + 60) = some true := by kernel_rfl
end Go.Proofs.Ytigiikkenamneaa
namespace Go.Abs
open Go.Sem Go.ChangeShapes Go.RowKit

/-- a law's contract, as the claim's frame wants it -/
theorem Meets.law {P : Program} {f : FuncId} {args : List Value} {H : List HA} (h : Meets P f args H (fun v G => v = .bool true ∧ G = [])) {w : World} (hs : Sats w (fun _ => .no) H) :
    Calls P f args.toArray w fun e w' => e = .returned (.bool true) ∧ Below w.heap.size w w' := by
  refine (h w (fun _ => .no) (fun _ _ => rfl) hs).mono fun e w' ⟨v, G, o', he, ⟨hv, _⟩, _, ht, _⟩ => ?_
  subst hv
  exact ⟨he, ht.os, ht.tape, ht.output, ht.size, fun k hk => (ht.no k hk rfl).2⟩

theorem cells_open {w : World} {a : Option Addr} {len cap es : Nat} {cells : List (List Value)} (hcl : cells.length = len) (h1 : len ≤ cap) (h2 : cap ≤ maxLen) (h3 : a = none → cap = 0) (hes : 0 < es)
    (he : ∀ c ∈ cells, c.length = es) (hc : ∀ x, a = some x → ∀ i c, cells[i]? = some c → ∀ j v, c[j]? = some v → w.cell? (x.add (i * es + j)) = some v) :
    SliceIs w (fun b => (fun _ => Ow.no : Own) b = .no) (.slice a len cap) es cells := by
  refine ⟨a, cap, by rw [hcl], by omega, h2, h3, ?_⟩
  intro i c hi
  have hlen := he c (List.mem_of_getElem? hi)
  cases a with
  | none =>
    have := (List.getElem?_eq_some_iff.1 hi).1
    have := h3 rfl
    omega
  | some x =>
    have e0 : c[0]? = some (c[0]'(by omega)) := List.getElem?_eq_getElem (by omega)
    have h := hc x rfl i c hi 0 _ e0
    have hs0 := World.cell?_spot h
    have hb : x.block < w.heap.size := by
      unfold World.cell? at h
      have e : (x.add (i * es + 0)).block = x.block := by unfold Addr.add; split <;> rfl
      rw [e] at h
      cases hh : w.heap[x.block]? with
      | none => rw [hh] at h; simp at h
      | some o => exact (Array.getElem?_eq_some_iff.1 hh).1
    obtain ⟨b, off, spot⟩ := x
    refine ⟨hlen, b, off, ?_, hb, rfl, ?_⟩
    · cases spot with
      | none => rfl
      | some q =>
        exfalso
        have hi0 : ∀ i c, cells[i]? = some c → i = 0 := by
          intro i c hi
          false_or_by_contra
          have hlen := he c (List.mem_of_getElem? hi)
          have hi00 : cells[0]? = some (cells[0]'(by have := (List.getElem?_eq_some_iff.1 hi).1; omega)) := List.getElem?_eq_getElem _
          have hl0 := he _ (List.mem_of_getElem? hi00)
          have h := hc _ rfl 0 _ hi00 0 _ (List.getElem?_eq_getElem (by omega))
          have := World.cell?_spot h
          simp [Addr.add] at this
        have := hi0 i c hi
        subst this
        simp [Addr.add] at hs0
    · intro j v hj
      have h' := hc _ rfl i c hi j v hj
      have hsp := World.cell?_spot h'
      rw [← h']
      congr 1
      unfold Addr.add at hsp ⊢
      split
      · rename_i h0
        rw [if_pos h0] at hsp
        simp only at hsp
        rw [hsp]
        have : off + i * es + j = off := by omega
        rw [this]
      · rw [Nat.add_assoc]
theorem slice_nil {w : World} {B : Nat → Prop} {es : Nat} : SliceIs w B (.slice none 0 0) es [] := ⟨none, 0, rfl, by simp, by unfold maxLen; omega, fun _ => rfl, fun i c h => by simp at h⟩
end Go.Abs
namespace Go.Abs
open Go.Sem Go.ChangeShapes Go.RowKit
end Go.Abs
namespace Go.Abs
open Go.Sem Go.ChangeShapes Go.RowKit
section
variable {H : Type} {enc : TypeId × Value → H} {P : Program} {w : World} {base : Nat} {sp : Nat → Bool} {held : Bool}
end
end Go.Abs
namespace Go.Abs
open Go.Sem Go.ChangeShapes Go.RowKit
section
variable {H : Type} {enc : TypeId × Value → H} {P : Program} {w : World} {base : Nat} {sp : Nat → Bool} {held : Bool}
def wfI (k : IntKind) (n : Int) : Prop := (Lit.int k n).wf = true
theorem wf8 {n : Int} (h : wfI .u8 n) : 0 ≤ n ∧ n ≤ 255 := by
  simp only [wfI, Lit.wf, Bool.and_eq_true, decide_eq_true_eq] at h; exact h
/-- a type is opened: what is read of it lies in the cells 'F a', and a is well formed -/
def Opens (enc : TypeId × Value → H) (P : Program) (w : World) (base : Nat) (sp : Nat → Bool) (held : Bool) (t : TypeId) {α : Type} (F : α → List Value) (wf : α → Prop) : Prop :=
  ∀ (fuel : Nat) (cs : List Value) (x : DataW H × List MemPlace), DataW.trod enc P w base sp held fuel t cs = some x → ∃ a, cs = F a ∧ wf a
theorem opn_int {t : TypeId} {k : IntKind} (ht : P.underlying t = some (.int k)) : Opens enc P w base sp held t (eInt k) (wfI k) := by
  intro fuel cs x h
  obtain ⟨n, hc, _, hw⟩ := DataW.trod_int ht h
  exact ⟨n, hc, hw⟩
/-- the elements of a slice that is opened -/
theorem opn_slice {t e : TypeId} {es : Nat} {α : Type} {F : α → List Value} {wf : α → Prop} (ht : P.underlying t = some (.slice e)) (hce : P.cellsOf e = es) (hes : 0 < es) (hF : ∀ a, (F a).length = es)
    (ho : Opens enc P w base sp held e F wf) {fuel : Nat} {cs : List Value} {x : DataW H × List MemPlace} (h : DataW.trod enc P w base sp held fuel t cs = some x) :
    ∃ (v : Value) (l : List α), cs = [v] ∧ (∀ a ∈ l, wf a) ∧ SliceIs w (fun b => (fun _ => Ow.no : Own) b = .no) v es (l.map F) ∧
      ((x = (.nil, []) ∧ l = []) ∨ ∃ ys rs ps, x = (.slice ys rs, ps) ∧ ys.length = l.length) := by
  rcases DataW.trod_slice ht h with ⟨rfl, hx⟩ | ⟨a, len, cap, elems, rest, m, _, rfl, rfl, hb, hl, hm, hlen, hel', hsp, hns⟩
  · exact ⟨_, [], rfl, by simp, slice_nil, .inl ⟨hx, rfl⟩⟩
  · have each : ∀ i, i < len → ∃ d : α, wf d ∧ ∀ j v, (F d)[j]? = some v → w.cell? (a.add (i * es + j)) = some v := by
      intro i hi
      have h1 := hel' i hi
      rw [List.getElem?_eq_getElem (by omega), hce, Option.bind_eq_some_iff] at h1
      obtain ⟨cs', hcs, hy⟩ := h1
      obtain ⟨d, rfl, hd⟩ := ho _ _ _ hy
      refine ⟨d, hd, fun j v hj => ?_⟩
      have hjlt : j < es := by have := (List.getElem?_eq_some_iff.1 hj).1; rw [hF] at this; omega
      have := (World.cells?_some hcs).2.2 j hjlt
      rw [hj] at this
      rw [← this]
      congr 1
      unfold Addr.add
      by_cases e1 : i * es = 0
      · rw [if_pos e1]; simp [e1]
      · rw [if_neg e1, if_neg (by omega)]
        by_cases e2 : j = 0
        · simp [e2]
        · rw [if_neg e2]; simp [Nat.add_assoc]
    have hch : ∃ l : List α, l.length = len ∧ ∀ i d, l[i]? = some d → wf d ∧ ∀ j v, (F d)[j]? = some v → w.cell? (a.add (i * es + j)) = some v := by
      clear hel' hlen hsp hns hl h
      induction len with
      | zero => exact ⟨[], rfl, by simp⟩
      | succ k ih =>
        obtain ⟨l, hl1, hl2⟩ := ih (fun i hi => each i (by omega))
        obtain ⟨d, hd1, hd2⟩ := each k (by omega)
        refine ⟨l ++ [d], by simp [hl1], fun i d' hi => ?_⟩
        by_cases hik : i < k
        · rw [List.getElem?_append_left (by omega)] at hi; exact hl2 i d' hi
        · rw [List.getElem?_append_right (by omega)] at hi
          have : i = k := by have := (List.getElem?_eq_some_iff.1 hi).1; simp at this; omega
          subst this
          rw [hl1, Nat.sub_self] at hi
          simp at hi
          subst hi
          exact ⟨hd1, hd2⟩
    obtain ⟨l, hl1, hl2⟩ := hch
    refine ⟨_, l, rfl, ?_, ?_, .inr ⟨_, _, _, rfl, by simp [hlen, hl1]⟩⟩
    · intro d hd
      obtain ⟨i, hi⟩ := List.getElem?_of_mem hd
      exact (hl2 i d hi).1
    · refine cells_open (by rw [List.length_map, hl1]) hl hm (by simp) hes ?_ ?_
      · intro c hc
        obtain ⟨d, hd, rfl⟩ := List.mem_map.1 hc
        exact hF d
      · intro x hx i c hi j v hj
        cases hx
        simp only [List.getElem?_map, Option.map_eq_some_iff] at hi
        obtain ⟨d, hd, rfl⟩ := hi
        exact (hl2 i d hd).2 j v hj
end
end Go.Abs
namespace Go.Abs
open Go.Sem Go.ChangeShapes Go.RowKit
section
variable {H : Type} {enc : TypeId × Value → H} {P : Program} {w : World} {base : Nat} {sp : Nat → Bool} {held : Bool}
def noO : Own := fun _ => .no
theorem opn_leaf {t e : TypeId} {es : Nat} {α : Type} {F : α → List Value} {wf : α → Prop} (ht : P.underlying t = some (.slice e)) (hce : P.cellsOf e = es) (hes : 0 < es) (hF : ∀ a, (F a).length = es)
    (ho : Opens enc P w base sp held e F wf) {fuel : Nat} {cs : List Value} {x : DataW H × List MemPlace} (h : DataW.trod enc P w base sp held fuel t cs = some x) :
    ∃ (v : Value) (l : List α), cs = [v] ∧ (∀ a ∈ l, wf a) ∧ ∀ k, (ro v es (l.map F)).p w noO k := by
  obtain ⟨v, l, h1, h2, h3, _⟩ := opn_slice ht hce hes hF ho h
  exact ⟨v, l, h1, h2, fun _ => h3⟩
end
end Go.Abs
namespace Go.Proofs.Ytigiikkenamneaa
open Go.Abs
set_option linter.unusedVariables false
set_option linter.unusedSimpArgs false
set_option maxRecDepth 20000
set_option maxHeartbeats 4000000

open Go.Sem Go.ChangeShapes Go.RowKit
def S_law42_Act.wf (x : S_law42_Act) : Prop := wfI .u8 x.Kind ∧ wfI .u8 x.N
theorem S_law42_Act.opn {H : Type} {enc : TypeId × Value → H} {w : World} {base : Nat} {sp : Nat → Bool} {held : Bool} : Opens enc Try.prog w base sp held 69 S_law42_Act.enc S_law42_Act.wf := by
  intro fuel cs x h
  obtain ⟨xs, n, _, _, hl, hlen, hf⟩ := DataW.trod_struct Try.underlying69 h
  have hl' : cs.length = 2 := hl.trans (by kernel_rfl)
  have hx : xs.length = 2 := hlen
  have k5 : Try.prog.cellsOf 5 = 1 := by kernel_rfl
  match cs, hl' with
  | [c0, c1], _ =>
    have f0 := hf 0 _ rfl
    rw [List.getElem?_eq_getElem (show 0 < xs.length by omega)] at f0
    obtain ⟨a0, e0, w0⟩ := (opn_int Try.underlying5) _ _ _ f0
    simp [k5, eInt, eStr, eBool] at e0
    have f1 := hf 1 _ rfl
    rw [List.getElem?_eq_getElem (show 1 < xs.length by omega)] at f1
    obtain ⟨a1, e1, w1⟩ := (opn_int Try.underlying5) _ _ _ f1
    simp [k5, eInt, eStr, eBool] at e1
    exact ⟨⟨a0, a1⟩, by simp [S_law42_Act.enc, e0, e1], w0, w1⟩

end Go.Proofs.Ytigiikkenamneaa
namespace Go.Proofs.Ytigiikkenamneaa
open Go.Abs
set_option linter.unusedVariables false
set_option linter.unusedSimpArgs false
set_option maxRecDepth 20000
set_option maxHeartbeats 4000000

end Go.Proofs.Ytigiikkenamneaa
namespace Go.Proofs.Ytigiikkenamneaa
open Go.Abs
set_option linter.unusedSimpArgs false
set_option linter.unusedVariables false
def nd0 (v : Int) (i : Nat) : S_api_Node := ⟨i, v, 0⟩
def w0 (v : Int) : S_law42_World := ⟨⟨v, 0, 0, false, [], [ord0 v 0, ord0 v 1, ord0 v 2, ord0 v 3]⟩, nodes4 (nd0 v), [], [], false⟩
theorem begin_loop_eq (v : Int) (k : Nat) : iter (law42_begin_L1 v) (k + 5) (0, 0, 0, 0, 0, 0, 0, 0, 0, 0, 0, 0, 0) = some (.go (0, v, 0, 1, v, 0, 2, v, 0, 3, v, 0)) := by kernel_rfl
theorem world_eq {v : Int} (h0 : 0 ≤ v) (h1 : v < 70000) (m : Nat) (hm : 10 ≤ m) : law42_begin m v = some (w0 v) ∧ WI (w0 v) none (ord0 v) (nd0 v) 0 := by
  constructor
  · obtain ⟨k, rfl⟩ : ∃ k, m = k + 5 := ⟨m - 5, by omega⟩
    unfold law42_begin
    rw [new_eq h0 (by omega) _ hm]
    simp only [obind, Option.bind_some]
    rw [begin_loop_eq v k]
    rfl
  · refine ⟨new_fi h0 (by omega), by simp only [w0]; omega, by simp [w0], rfl, rfl, fun i hi => ⟨rfl, Int.le_refl _, Int.le_refl _, fun _ => rfl, by simp [w0, nd0], by simp [w0, nd0]; omega⟩, fun x hx => by simp [w0] at hx, fun x hx => by simp [w0] at hx, by simp [w0], by simp [w0]⟩
theorem wf_u8 {a : S_law42_Act} (h : S_law42_Act.wf a) : 0 ≤ a.Kind ∧ 0 ≤ a.N ∧ a.N < 256 := by
  have h1 := wf8 h.1; have h2 := wf8 h.2
  omega
theorem wf_u16 {v : Int} (h : wfI .u16 v) : 0 ≤ v ∧ v < 70000 := by
  simp only [wfI, Lit.wf, Bool.and_eq_true, decide_eq_true_eq] at h
  obtain ⟨h1, h2⟩ := h
  exact ⟨h1, by have : v ≤ 65535 := h2; omega⟩
end Go.Proofs.Ytigiikkenamneaa
namespace Go.Proofs.Ytigiikkenamneaa
open Go.Abs
set_option linter.unusedVariables false
set_option linter.unusedSimpArgs false
set_option maxRecDepth 20000
set_option maxHeartbeats 4000000

def topo_Settled (n : Nat) (f_0 : S_api_Fleet) : Option (Bool) :=
 obind (topo_ValidFleet n f_0) fun r2 =>
 bindJ (S := Bool)
  (cond r2
   (obind (topo_isSettled n f_0) fun r10 =>
   some (.go r10))
   (some (.go false)))
 (fun b4 =>
  some b4)
theorem topo_Settled_ok (n : Nat) (f_0 : S_api_Fleet) (f_0_Stagesv : Value) (f_0_Ordersv : Value) {r : Bool} (h : topo_Settled n f_0 = some r) :
  Meets Try.prog 28 [.agg #[.int .i64 f_0.Base, .int .i64 f_0.Done, .int .i64 f_0.Serial, .bool f_0.Stopped, f_0_Stagesv, f_0_Ordersv]] [nro f_0_Stagesv NC_L_int_35 f_0.Stages, ro f_0_Ordersv 4 (f_0.Orders.map S_api_Order.enc)] (fun v G => v = .bool r ∧ G = []) := by
 refine fn_of_run Try.func28 rfl Try.ntmps28 rfl (fun w0 o0 => ?_)
 refine run_seq ?_
 refine run_region' ?_
 refine ot rfl rfl (t_box rfl) ?_
 rintro _ _ ⟨b1, rfl, rfl⟩
 refine oy rfl rfl (y_assign rfl) ?_
 refine ops_nil ?_
 refine goes_code ?_
 refine run_seq ?_
 refine run_region' ?_
 refine oy rfl rfl (y_load_boxagg (c := [.int .i64 f_0.Base, .int .i64 f_0.Done, .int .i64 f_0.Serial, .bool f_0.Stopped, f_0_Stagesv, f_0_Ordersv]) 2 Try.isAgg59 Try.sizeOf59 rfl rfl rfl) ?_
 obtain ⟨r2, hr3, h⟩ := obind_some h
 refine ot rfl rfl (t_callx (vs := [.agg #[.int .i64 f_0.Base, .int .i64 f_0.Done, .int .i64 f_0.Serial, .bool f_0.Stopped, f_0_Stagesv, f_0_Ordersv]]) (cs := []) [(0, 0), (1, 0)] rfl Try.call51 rfl (topo_ValidFleet_ok n f_0 f_0_Stagesv f_0_Ordersv hr3) (showsX_view 0 rfl views_nro (showsX_view 1 rfl views_ro showsX_nil)) rfl (.inl rfl)) ?_
 rintro _ _ ⟨_, ⟨rfl, rfl⟩, rfl⟩
 refine oy rfl rfl (y_move rfl) ?_
 obtain ⟨o5, h, ho6⟩ := bindJ_some h
 refine ops_cut 3 (Bool) (fun σ => [(8, .bool σ)]) (fun σ => []) (fun σ => o5 = .go σ) (fun L7 hL8 => ?_) ?_
 ·refine ops_split 5 r2 rfl (fun hg9 => ?_) (fun hg9 => ?_)
  ·replace h := cond_t h hg9
   refine ops_y (wg 2 true 5 rfl rfl rfl rfl) rfl (y_load_boxagg (c := [.int .i64 f_0.Base, .int .i64 f_0.Done, .int .i64 f_0.Serial, .bool f_0.Stopped, f_0_Stagesv, f_0_Ordersv]) 2 Try.isAgg59 Try.sizeOf59 rfl rfl rfl) ?_
   obtain ⟨r10, hr11, h⟩ := obind_some h
   refine ops_t (wg 2 true 5 rfl rfl rfl rfl) rfl (t_callx (vs := [.agg #[.int .i64 f_0.Base, .int .i64 f_0.Done, .int .i64 f_0.Serial, .bool f_0.Stopped, f_0_Stagesv, f_0_Ordersv]]) (cs := []) [(0, 0), (1, 0)] rfl Try.call57 rfl (topo_isSettled_ok n f_0 f_0_Stagesv f_0_Ordersv hr11) (showsX_view 0 rfl views_nro (showsX_view 1 rfl views_ro showsX_nil)) rfl (.inl rfl)) ?_
   rintro _ _ ⟨_, ⟨rfl, rfl⟩, rfl⟩
   refine oy rfl rfl (y_pick (b := true) rfl rfl) ?_
   refine ops_nil ?_
   obtain rfl := some_eq h
   exact goes_cut hL8 r10 [] (qv1 rfl) (by decide) rfl rfl
  ·replace h := cond_f h hg9
   refine ops_no 2 true 5 rfl rfl rfl rfl rfl ?_
   refine ops_no 2 true 5 rfl rfl rfl rfl rfl ?_
   refine oy rfl rfl (y_pick (b := false) rfl rfl) ?_
   refine ops_nil ?_
   obtain rfl := some_eq h
   exact goes_cut hL8 false [] (qv1 rfl) (by decide) rfl rfl
 rintro b4 hj
 obtain rfl : o5 = _ := hj
 replace h := after_go ho6
 clear ho6
 refine oy rfl rfl (y_assign rfl) ?_
 refine ops_nil ?_
 refine goes_code ?_
 refine run_ret ?_
 obtain rfl := some_eq h
 refine fin_slots [2] [.bool b4] [] [] Try.results28 rfl (by decide) rfl ?_
 exact ⟨rfl, rfl⟩

end Go.Proofs.Ytigiikkenamneaa
