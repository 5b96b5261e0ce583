/-
  The law TopoRoutesAsSpecified, in plain words.
-/
import Derived.Test.YtigiikkenamneaaPk
import Derived.Test.YtigiikkenamneaaSane
import Derived.Test.YtigiikkenamneaaW3
import Derived.Test.YtigiikkenamneaaOpn
namespace Go.Proofs.Ytigiikkenamneaa
open Go.Abs
set_option linter.unusedSimpArgs false
set_option linter.unusedVariables false
theorem clb_few {m : S_api_Map} (hf : few m) (s : Int) : (clb m s).1.length ≤ 100 := by
  have h70 := hf.1
  have : ∀ (f : Nat) (s : Int), (cl m.Hubs f s).length ≤ f := fun f => by
    induction f with
    | zero => intro s; simp [cl]
    | succ f ih =>
      intro s
      simp only [cl]; split
      · simp
      · have := ih (pa m.Hubs (at_ m.Hubs s).toNat)
        rw [List.length_append]; split <;> simp <;> omega
  unfold clb
  split
  · split
    · simp
    · have := this m.Hubs.length s; simp; omega
  · simp
theorem tur_few {m : S_api_Map} (hf : few m) (s : Int) (u : Bool) : few (tur m s u).1 := by
  unfold tur
  split
  · split
    · exact ⟨by simp, by simp, fun r hr => by simp at hr⟩
    · exact ⟨by simpa [trn] using hf.1, hf.2.1, hf.2.2⟩
  · exact ⟨by simp, by simp, fun r hr => by simp at hr⟩
theorem routes_true (a b : S_api_Map) (l : List (List UInt8)) (site : Int) (u : Bool) (wa : S_api_Map.wf a) (wb : S_api_Map.wf b) (wl : l.length ≤ maxLen ∧ ∀ x ∈ l, x.length ≤ maxLen) (ws : wfI .i64 site) (_ : True) : ∃ m, law42_TopoRoutesAsSpecified m a b l site u = some true := by
  refine ⟨a.Routes.length + b.Routes.length + 5000 + 60, ?_⟩
  have hs := sane (a.Routes.length + b.Routes.length + 5000)
  have la : a.Routes.length ≤ 9223372036854775807 := wa.2.1
  have lb : b.Routes.length ≤ 9223372036854775807 := wb.2.1
  unfold law42_TopoRoutesAsSpecified
  generalize hm : a.Routes.length + b.Routes.length + 5000 + 60 = m at *
  obtain ⟨fa, ea, ga⟩ := few_eq a m la (by omega)
  obtain ⟨fb, eb, gb⟩ := few_eq b m lb (by omega)
  rw [ea]
  simp only [obind, Option.bind_some]
  cases fa with
  | false => simp [hs]
  | true =>
    rw [eb]
    cases fb with
    | false => simp [hs]
    | true =>
      have fa := ga rfl
      have fb := gb rfl
      by_cases hl : l.length ≤ 20
      · have e : decide (20 < (l.length : Int)) = false := by simp; omega
        simp only [Bool.not_true, cond_false, Option.bind_some, bindJ_go, e, Bool.or_false]
        rw [iter_allgo l.length (.go ()) (fun i hi => by
          unfold law42_TopoRoutesAsSpecified_L1
          have e : decide ((i : Int) < (l.length : Int)) = true := by simpa using hi
          simp only [e, cond_true]
          rw [idx_get' hi, entry_eq fa _ m (by omega), rentry_eq fa _ m (by omega), w64 (by omega) (by omega)]
          simp [obind]) (by unfold law42_TopoRoutesAsSpecified_L1; simp) m (by omega)]
        rw [bindJ_go, climb_is fa site m (by omega), turn_is fa site u m (by omega), moved_is fa fb l (by omega) m (by omega) (by omega), rclimb_is fa site m (by omega), rturn_is fa site u m (by omega), rmoved_is fa fb l (by omega) m (by omega) (by omega), valid_eq fa m (by omega), rvalid_eq fa m (by omega)]
        simp only [Option.bind_some, ne_eq, not_true_eq_false, decide_false, cond_false, hs, cond_true, bindJ_go, beq_self_eq_true]
        have hml : (mvd a b l).length ≤ 20 := Nat.le_trans (List.length_filter_le _ _) hl
        rw [iter_allgo (mvd a b l).length (.go ()) (fun i hi => by
          unfold law42_TopoRoutesAsSpecified_L2
          have e : decide ((i : Int) < ((mvd a b l).length : Int)) = true := by simpa using hi
          simp only [e, cond_true]
          rw [idx_get' hi, idx_get' hi, w64 (by omega) (by omega)]
          simp) (by unfold law42_TopoRoutesAsSpecified_L2; simp) m (by omega)]
        have hc := clb_few fa site
        have ht := tur_few fa site u
        have h70 := ht.1
        have h20 := ht.2.1
        rw [bindJ_go, samelist_refl _ (by omega) m (by omega), samemap_refl _ (by omega) (by omega) (fun r hr => by have := ht.2.2 r hr; omega) m (by omega)]
        simp
      · have e : decide (20 < (l.length : Int)) = true := by simp; omega
        simp [e, hs]
end Go.Proofs.Ytigiikkenamneaa
