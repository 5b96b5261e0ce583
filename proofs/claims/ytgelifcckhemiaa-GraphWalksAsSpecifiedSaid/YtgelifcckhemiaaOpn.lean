/-
  The arguments of the graph laws, opened.
-/
import Derived.Test.YtgelifcckhemiaaFa
import Derived.Test.YtgelifcckhemiaaAbsEnd5
namespace Go.Proofs.Ytgelifcckhemiaa
open Go.Abs
set_option linter.unusedVariables false
set_option linter.unusedSimpArgs false
set_option maxRecDepth 20000
set_option maxHeartbeats 4000000

open Go.Sem Go.ChangeShapes Go.RowKit
def NC_api_Net_24 : NC S_api_Net where
  G := Value
  es := 2
  F := fun x g => [.int .i64 x.Nodes, g]
  S := fun x g => [ro g 4 (x.Arcs.map S_api_Arc.enc)]
  free := by
    intro x g h hh
    simp only [List.mem_cons, List.not_mem_nil, or_false] at hh
    rcases hh with rfl <;> first | exact free_ro | exact free_nro
  ok := by
    intro x g w o k hh
    refine ⟨rfl, ?_⟩
    intro u hu
    simp only [List.mem_cons, List.not_mem_nil, or_false] at hu
    rcases hu with rfl | rfl <;> first | rfl | exact ro_one (hh _ (.head _)) | exact nro_one (hh _ (.head _))

def NC_api_Routes_51 : NC S_api_Routes where
  G := Value × Value × Value
  es := 3
  F := fun x g => [g.1, g.2.1, g.2.2]
  S := fun x g => [ro g.1 1 (x.Dist.map (eInt .i64)), ro g.2.1 1 (x.Via.map (eInt .i64)), ro g.2.2 1 (x.Cycle.map (eInt .i64))]
  free := by
    intro x g h hh
    simp only [List.mem_cons, List.not_mem_nil, or_false] at hh
    rcases hh with rfl | rfl | rfl <;> first | exact free_ro | exact free_nro
  ok := by
    intro x g w o k hh
    refine ⟨rfl, ?_⟩
    intro u hu
    simp only [List.mem_cons, List.not_mem_nil, or_false] at hu
    rcases hu with rfl | rfl | rfl <;> first | rfl | exact ro_one (hh _ (.head _)) | exact nro_one (hh _ (.head _)) | exact ro_one (hh _ (.tail _ (.head _))) | exact nro_one (hh _ (.tail _ (.head _))) | exact ro_one (hh _ (.tail _ (.tail _ (.head _)))) | exact nro_one (hh _ (.tail _ (.tail _ (.head _))))

def S_api_Arc.wf (x : S_api_Arc) : Prop := wfI .i64 x.From ∧ wfI .i64 x.To ∧ wfI .i64 x.Cap ∧ wfI .i64 x.Cost
theorem S_api_Arc.opn {H : Type} {enc : TypeId × Value → H} {w : World} {base : Nat} {sp : Nat → Bool} {held : Bool} : Opens enc Try.prog w base sp held 67 S_api_Arc.enc S_api_Arc.wf := by
  intro fuel cs x h
  obtain ⟨xs, n, _, _, hl, hlen, hf⟩ := DataW.trod_struct Try.underlying67 h
  have hl' : cs.length = 4 := hl.trans (by kernel_rfl)
  have hx : xs.length = 4 := hlen
  have k3 : Try.prog.cellsOf 3 = 1 := by kernel_rfl
  match cs, hl' with
  | [c0, c1, c2, c3], _ =>
    have f0 := hf 0 _ rfl
    rw [List.getElem?_eq_getElem (show 0 < xs.length by omega)] at f0
    obtain ⟨a0, e0, w0⟩ := (opn_int Try.underlying3) _ _ _ f0
    simp [k3, eInt, eStr, eBool] at e0
    have f1 := hf 1 _ rfl
    rw [List.getElem?_eq_getElem (show 1 < xs.length by omega)] at f1
    obtain ⟨a1, e1, w1⟩ := (opn_int Try.underlying3) _ _ _ f1
    simp [k3, eInt, eStr, eBool] at e1
    have f2 := hf 2 _ rfl
    rw [List.getElem?_eq_getElem (show 2 < xs.length by omega)] at f2
    obtain ⟨a2, e2, w2⟩ := (opn_int Try.underlying3) _ _ _ f2
    simp [k3, eInt, eStr, eBool] at e2
    have f3 := hf 3 _ rfl
    rw [List.getElem?_eq_getElem (show 3 < xs.length by omega)] at f3
    obtain ⟨a3, e3, w3⟩ := (opn_int Try.underlying3) _ _ _ f3
    simp [k3, eInt, eStr, eBool] at e3
    exact ⟨⟨a0, a1, a2, a3⟩, by simp [S_api_Arc.enc, e0, e1, e2, e3], w0, w1, w2, w3⟩
def S_api_Net.wf (x : S_api_Net) : Prop := wfI .i64 x.Nodes ∧ (∀ a ∈ x.Arcs, S_api_Arc.wf a)
theorem S_api_Net.opnN {H : Type} {enc : TypeId × Value → H} {w : World} {base : Nat} {sp : Nat → Bool} {held : Bool} : OpensN enc Try.prog w base sp held 24 NC_api_Net_24 S_api_Net.wf := by
  intro fuel cs x h
  obtain ⟨xs, n, _, _, hl, hlen, hf⟩ := DataW.trod_struct Try.underlying24 h
  have hl' : cs.length = 2 := hl.trans (by kernel_rfl)
  have hx : xs.length = 2 := hlen
  have k3 : Try.prog.cellsOf 3 = 1 := by kernel_rfl
  have k22 : Try.prog.cellsOf 22 = 1 := by kernel_rfl
  match cs, hl' with
  | [c0, c1], _ =>
    have f0 := hf 0 _ rfl
    rw [List.getElem?_eq_getElem (show 0 < xs.length by omega)] at f0
    obtain ⟨a0, e0, w0⟩ := (opn_int Try.underlying3) _ _ _ f0
    simp [k3, eInt, eStr, eBool] at e0
    have f1 := hf 1 _ rfl
    rw [List.getElem?_eq_getElem (show 1 < xs.length by omega)] at f1
    obtain ⟨v1, a1, e1, w1, s1⟩ := opn_leaf (es := 4) (F := S_api_Arc.enc) (wf := S_api_Arc.wf) Try.underlying22 (by kernel_rfl) (by decide) (fun a => (S_api_Arc.enc_ok a).1) S_api_Arc.opn f1
    simp [k22, eInt, eStr, eBool] at e1
    refine ⟨⟨a0, a1⟩, v1, by simp [NC_api_Net_24, e0, e1], ⟨w0, w1⟩, fun k h hh => ?_⟩
    simp only [NC_api_Net_24, List.mem_cons, List.not_mem_nil, or_false] at hh
    subst hh; exact s1 k
def S_api_Routes.wf (x : S_api_Routes) : Prop := (∀ a ∈ x.Dist, wfI .i64 a) ∧ (∀ a ∈ x.Via, wfI .i64 a) ∧ (∀ a ∈ x.Cycle, wfI .i64 a)
theorem S_api_Routes.opnN {H : Type} {enc : TypeId × Value → H} {w : World} {base : Nat} {sp : Nat → Bool} {held : Bool} : OpensN enc Try.prog w base sp held 51 NC_api_Routes_51 S_api_Routes.wf := by
  intro fuel cs x h
  obtain ⟨xs, n, _, _, hl, hlen, hf⟩ := DataW.trod_struct Try.underlying51 h
  have hl' : cs.length = 3 := hl.trans (by kernel_rfl)
  have hx : xs.length = 3 := hlen
  have k34 : Try.prog.cellsOf 34 = 1 := by kernel_rfl
  match cs, hl' with
  | [c0, c1, c2], _ =>
    have f0 := hf 0 _ rfl
    rw [List.getElem?_eq_getElem (show 0 < xs.length by omega)] at f0
    obtain ⟨v0, a0, e0, w0, s0⟩ := opn_leaf (es := 1) (F := (eInt .i64)) (wf := (fun a => wfI .i64 a)) Try.underlying34 (by kernel_rfl) (by decide) (fun a => ((eInt_ok _) a).1) (opn_int Try.underlying3) f0
    simp [k34, eInt, eStr, eBool] at e0
    have f1 := hf 1 _ rfl
    rw [List.getElem?_eq_getElem (show 1 < xs.length by omega)] at f1
    obtain ⟨v1, a1, e1, w1, s1⟩ := opn_leaf (es := 1) (F := (eInt .i64)) (wf := (fun a => wfI .i64 a)) Try.underlying34 (by kernel_rfl) (by decide) (fun a => ((eInt_ok _) a).1) (opn_int Try.underlying3) f1
    simp [k34, eInt, eStr, eBool] at e1
    have f2 := hf 2 _ rfl
    rw [List.getElem?_eq_getElem (show 2 < xs.length by omega)] at f2
    obtain ⟨v2, a2, e2, w2, s2⟩ := opn_leaf (es := 1) (F := (eInt .i64)) (wf := (fun a => wfI .i64 a)) Try.underlying34 (by kernel_rfl) (by decide) (fun a => ((eInt_ok _) a).1) (opn_int Try.underlying3) f2
    simp [k34, eInt, eStr, eBool] at e2
    refine ⟨⟨a0, a1, a2⟩, (v0, v1, v2), by simp [NC_api_Routes_51, e0, e1, e2], ⟨w0, w1, w2⟩, fun k h hh => ?_⟩
    simp only [NC_api_Routes_51, List.mem_cons, List.not_mem_nil, or_false] at hh
    rcases hh with rfl | rfl | rfl
    · exact s0 k
    · exact s1 k
    · exact s2 k

end Go.Proofs.Ytgelifcckhemiaa
