/-
  The arguments of the topo laws, opened.
-/
import Derived.Test.YtigiikkenamneaaFa
import Derived.Test.YtigiikkenamneaaAbsEnd5
namespace Go.Proofs.Ytigiikkenamneaa
open Go.Abs
set_option linter.unusedVariables false
set_option linter.unusedSimpArgs false
set_option maxRecDepth 20000
set_option maxHeartbeats 4000000

open Go.Sem Go.ChangeShapes Go.RowKit
def NC_api_Map_25 : NC S_api_Map where
  G := Value × Value
  es := 2
  F := fun x g => [g.1, g.2]
  S := fun x g => [ro g.1 3 (x.Hubs.map S_api_Hub.enc), nro g.2 NC_api_Route_82 x.Routes]
  free := by
    intro x g h hh
    simp only [List.mem_cons, List.not_mem_nil, or_false] at hh
    rcases hh with rfl | rfl <;> first | exact free_ro | exact free_nro
  ok := by
    intro x g w o k hh
    refine ⟨rfl, ?_⟩
    intro u hu
    simp only [List.mem_cons, List.not_mem_nil, or_false] at hu
    rcases hu with rfl | rfl <;> first | rfl | exact ro_one (hh _ (.head _)) | exact nro_one (hh _ (.head _)) | exact ro_one (hh _ (.tail _ (.head _))) | exact nro_one (hh _ (.tail _ (.head _)))

def S_api_Hub.wf (x : S_api_Hub) : Prop := wfI .i64 x.Site ∧ wfI .i64 x.Parent ∧ True
theorem S_api_Hub.opn {H : Type} {enc : TypeId × Value → H} {w : World} {base : Nat} {sp : Nat → Bool} {held : Bool} : Opens enc Try.prog w base sp held 52 S_api_Hub.enc S_api_Hub.wf := by
  intro fuel cs x h
  obtain ⟨xs, n, _, _, hl, hlen, hf⟩ := DataW.trod_struct Try.underlying52 h
  have hl' : cs.length = 3 := hl.trans (by kernel_rfl)
  have hx : xs.length = 3 := hlen
  have k3 : Try.prog.cellsOf 3 = 1 := by kernel_rfl
  have k4 : Try.prog.cellsOf 4 = 1 := by kernel_rfl
  match cs, hl' with
  | [c0, c1, c2], _ =>
    have f0 := hf 0 _ rfl
    rw [List.getElem?_eq_getElem (show 0 < xs.length by omega)] at f0
    obtain ⟨a0, e0, w0⟩ := (opn_int Try.underlying3) _ _ _ f0
    simp [k3, eInt, eStr, eBool] at e0
    have f1 := hf 1 _ rfl
    rw [List.getElem?_eq_getElem (show 1 < xs.length by omega)] at f1
    obtain ⟨a1, e1, w1⟩ := (opn_int Try.underlying3) _ _ _ f1
    simp [k3, eInt, eStr, eBool] at e1
    have f2 := hf 2 _ rfl
    rw [List.getElem?_eq_getElem (show 2 < xs.length by omega)] at f2
    obtain ⟨a2, e2, w2⟩ := (opn_bool Try.underlying4) _ _ _ f2
    simp [k4, eInt, eStr, eBool] at e2
    exact ⟨⟨a0, a1, a2⟩, by simp [S_api_Hub.enc, e0, e1, e2], w0, w1, w2⟩
def S_api_Route.wf (x : S_api_Route) : Prop := x.Country.length ≤ maxLen ∧ (x.Sites.length ≤ maxLen ∧ ∀ a ∈ x.Sites, wfI .i64 a)
theorem S_api_Route.opnN {H : Type} {enc : TypeId × Value → H} {w : World} {base : Nat} {sp : Nat → Bool} {held : Bool} : OpensN enc Try.prog w base sp held 82 NC_api_Route_82 S_api_Route.wf := by
  intro fuel cs x h
  obtain ⟨xs, n, _, _, hl, hlen, hf⟩ := DataW.trod_struct Try.underlying82 h
  have hl' : cs.length = 2 := hl.trans (by kernel_rfl)
  have hx : xs.length = 2 := hlen
  have k9 : Try.prog.cellsOf 9 = 1 := by kernel_rfl
  have k35 : Try.prog.cellsOf 35 = 1 := by kernel_rfl
  match cs, hl' with
  | [c0, c1], _ =>
    have f0 := hf 0 _ rfl
    rw [List.getElem?_eq_getElem (show 0 < xs.length by omega)] at f0
    obtain ⟨a0, e0, w0⟩ := (opn_str Try.underlying9) _ _ _ f0
    simp [k9, eInt, eStr, eBool] at e0
    have f1 := hf 1 _ rfl
    rw [List.getElem?_eq_getElem (show 1 < xs.length by omega)] at f1
    obtain ⟨v1, a1, e1, w1, s1⟩ := opn_leafL (es := 1) (F := (eInt .i64)) (wf := (fun a => wfI .i64 a)) Try.underlying35 (by kernel_rfl) (by decide) (fun a => ((eInt_ok _) a).1) (opn_int Try.underlying3) f1
    simp [k35, eInt, eStr, eBool] at e1
    refine ⟨⟨a0, a1⟩, v1, by simp [NC_api_Route_82, e0, e1], ⟨w0, w1⟩, fun k h hh => ?_⟩
    simp only [NC_api_Route_82, List.mem_cons, List.not_mem_nil, or_false] at hh
    subst hh; exact s1 k
def S_api_Map.wf (x : S_api_Map) : Prop := (x.Hubs.length ≤ maxLen ∧ ∀ a ∈ x.Hubs, S_api_Hub.wf a) ∧ (x.Routes.length ≤ maxLen ∧ ∀ a ∈ x.Routes, S_api_Route.wf a)
theorem S_api_Map.opnN {H : Type} {enc : TypeId × Value → H} {w : World} {base : Nat} {sp : Nat → Bool} {held : Bool} : OpensN enc Try.prog w base sp held 25 NC_api_Map_25 S_api_Map.wf := by
  intro fuel cs x h
  obtain ⟨xs, n, _, _, hl, hlen, hf⟩ := DataW.trod_struct Try.underlying25 h
  have hl' : cs.length = 2 := hl.trans (by kernel_rfl)
  have hx : xs.length = 2 := hlen
  have k22 : Try.prog.cellsOf 22 = 1 := by kernel_rfl
  have k23 : Try.prog.cellsOf 23 = 1 := by kernel_rfl
  match cs, hl' with
  | [c0, c1], _ =>
    have f0 := hf 0 _ rfl
    rw [List.getElem?_eq_getElem (show 0 < xs.length by omega)] at f0
    obtain ⟨v0, a0, e0, w0, s0⟩ := opn_leafL (es := 3) (F := S_api_Hub.enc) (wf := S_api_Hub.wf) Try.underlying22 (by kernel_rfl) (by decide) (fun a => (S_api_Hub.enc_ok a).1) S_api_Hub.opn f0
    simp [k22, eInt, eStr, eBool] at e0
    have f1 := hf 1 _ rfl
    rw [List.getElem?_eq_getElem (show 1 < xs.length by omega)] at f1
    obtain ⟨v1, a1, e1, w1, s1⟩ := opn_leafNL (C := NC_api_Route_82) (wf := S_api_Route.wf) Try.underlying23 (by kernel_rfl) (by decide) (fun _ _ => rfl) S_api_Route.opnN f1
    simp [k23, eInt, eStr, eBool] at e1
    refine ⟨⟨a0, a1⟩, (v0, v1), by simp [NC_api_Map_25, e0, e1], ⟨w0, w1⟩, fun k h hh => ?_⟩
    simp only [NC_api_Map_25, List.mem_cons, List.not_mem_nil, or_false] at hh
    rcases hh with rfl | rfl
    · exact s0 k
    · exact s1 k

end Go.Proofs.Ytigiikkenamneaa
