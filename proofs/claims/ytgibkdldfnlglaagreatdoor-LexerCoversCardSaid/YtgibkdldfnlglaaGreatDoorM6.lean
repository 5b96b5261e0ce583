/-
  Texts that stand side by side: Pn, AbsEnd, AbsEnd2, AbsEnd3, AbsEnd4, AbsEnd5, AbsLaid, Opn, P8, LaidL.
-/
import Derived.Test.YtgibkdldfnlglaaGreatDoorM5
import Derived.Test.YtgibkdldfnlglaaGreatDoorM0
import Derived.WalkKit
import Derived.ProofKit
import Derived.OpenShut
import Derived.ShutString
import Derived.ChangeOld
import Derived.Below
import Derived.SliceStrings
import Derived.Test.YtgibkdldfnlglaaGreatDoorM1
import Derived.ChangeArms
import Derived.LaidHandle
import Derived.Deep.DeepHandedRow
import Derived.Test.YtgibkdldfnlglaaGreatDoorFb
import Derived.Test.YtgibkdldfnlglaaGreatDoorRows
import Derived.Test.YtgibkdldfnlglaaGreatDoorChecked
namespace Go.Proofs.YtgibkdldfnlglaaGreatDoor
open Go.Abs Go.Lex
set_option linter.unusedSimpArgs false
set_option linter.unusedVariables false
theorem drop_take_onek {α : Type} {l : List α} {i : Nat} (h : i < l.length) : (l.take (i + 1)).drop i = [l[i]] := by
  rw [take_snoc h, List.drop_append_of_le_length (by simp; omega)]
  simp
theorem covers_loop (s : List UInt8) (hs : s.length ≤ 2000) (L : List (Int × Nat × List UInt8)) (lay : Lay kwP s L) (p : S_api_Problem) (n : Nat) (hn : 1000000 < n) :
    iter (law18_LexerCovers_L1 n s (L.map (mkT s.length), p)) n (0, 0) = some (.go (endOf s L L.length : Int)) := by
  obtain ⟨hs1, hs2, htok⟩ := lay_sum lay
  obtain ⟨r, e, rfl⟩ := iter_inv (step := law18_LexerCovers_L1 n s (L.map (mkT s.length), p)) (fun x => ∃ i : Nat, x = ((endOf s L i : Int), (i : Int)) ∧ i ≤ L.length) (fun x => L.length - x.2.toNat) (fun r => r = .go (endOf s L L.length : Int)) (by
    rintro _ ⟨i, rfl, hi⟩
    unfold law18_LexerCovers_L1
    by_cases hlt : i < L.length
    · obtain ⟨pp, q, r, a1, a2, a3, a4, a5, a6, a7⟩ := lay_cut lay i hlt
      have hm : i < (L.map (mkT s.length)).length := by simpa using hlt
      have hget : (L.map (mkT s.length))[i] = mkT s.length L[i] := List.getElem_map ..
      have hlen : s.length = pp.length + q.length + (wrL L[i].1 L[i].2.2).length + r.length := by
        have := congrArg List.length a1
        simp only [List.length_append] at this
        omega
      simp only [List.length_append] at a4
      have e1 : IntKind.i64.wrap ((i : Int) + 1) = ((i + 1 : Nat) : Int) := by rw [w64 (by omega) (by omega)]; omega
      have hAt : (mkT s.length L[i]).At = ((pp.length + q.length : Nat) : Int) := by
        show ((s.length - L[i].2.1 : Nat) : Int) = _
        omega
      have e2 : IntKind.i64.wrap (((pp.length + q.length : Nat) : Int) + ((wrL L[i].1 L[i].2.2).length : Int)) = ((pp.length + q.length + (wrL L[i].1 L[i].2.2).length : Nat) : Int) := by
        rw [w64 (by omega) (by omega)]; omega
      have hT : Tok kwP (mkT s.length L[i]).Kind (mkT s.length L[i]).S := a5
      have hwr : wr (mkT s.length L[i]) = wrL L[i].1 L[i].2.2 := rfl
      have hSl : (mkT s.length L[i]).S.length ≤ 2000 := by
        have : (wrL L[i].1 L[i].2.2).length ≤ 2000 := by omega
        show L[i].2.2.length ≤ 2000
        unfold Lex.wrL at this
        split at this
        · have h2 := esc_len L[i].2.2
          have h3 : escL L[i].2.2 = esc L[i].2.2 := rfl
          rw [h3] at this
          simp only [List.length_append] at this; omega
        · exact this
      have hts : s.take (pp.length + q.length + (wrL L[i].1 L[i].2.2).length) = pp ++ (q ++ wrL L[i].1 L[i].2.2) := by
        have : s = (pp ++ (q ++ wrL L[i].1 L[i].2.2)) ++ r := by rw [a1]; simp only [List.append_assoc]
        rw [this, List.take_append_of_le_length (by simp only [List.length_append]; omega), List.take_of_length_le (by simp only [List.length_append]; omega)]
      have hts2 : s.take (pp.length + q.length) = pp ++ q := by
        have : s = (pp ++ q) ++ (wrL L[i].1 L[i].2.2 ++ r) := by rw [a1]; simp only [List.append_assoc]
        rw [this, List.take_append_of_le_length (by simp only [List.length_append]; omega), List.take_of_length_le (by simp only [List.length_append]; omega)]
      simp only [List.length_map]
      rw [decide_eq_true (show (i : Int) < (L.length : Int) by omega), cond_true, e1, need_pos (by omega), Int.toNat_natCast, Int.toNat_natCast, drop_take_onek hm, hget,
        text_val [mkT s.length L[i]] (by simp) (fun t ht => by rw [List.mem_singleton.1 ht]; omega) n hn, textR_one hT (by rw [hwr]; omega), hwr]
      simp only [obind, Option.bind_some]
      rw [idx_get' hm, hget, hAt, e2]
      simp only [Int.toNat_natCast, hts, hts2]
      rw [show (decide ((0 : Int) ≠ 0) || decide (((pp.length + q.length : Nat) : Int) < (endOf s L i : Int)) || decide ((s.length : Int) < ((pp.length + q.length + (wrL L[i].1 L[i].2.2).length : Nat) : Int))) = false by
        rw [Bool.eq_false_iff]; intro h; simp only [Bool.or_eq_true, decide_eq_true_eq] at h; omega, cond_false, need_pos (by omega)]
      have hd1 : (pp ++ (q ++ wrL L[i].1 L[i].2.2)).drop (pp.length + q.length) = wrL L[i].1 L[i].2.2 := by
        rw [← List.append_assoc, ← List.length_append, List.drop_left]
      have hd2 : (pp ++ q).drop (endOf s L i) = q := by rw [← a3, List.drop_left]
      simp only [hd1, hd2, decide_true, Bool.not_true, bindJ_goj, cond_false]
      rw [need_pos (by omega), blank_eq q (by omega) n (by omega), decide_eq_true a2]
      simp only [Option.bind_some, Bool.not_true, bindJ_goj, cond_false]
      rw [need_pos (by omega), tokens_eq _ (by simp only [List.length_append]; omega) n (by simp only [List.length_append]; omega), tokR_ok (a7 _ (Nat.lt_succ_self _))]
      simp only [Option.bind_some]
      rw [show decide ((0 : Int) ≠ 0) = false from rfl, cond_false, need_pos (by omega)]
      have heq : (((L.take (i + 1)).map fun x => (x.1, x.2.1 - r.length, x.2.2)).map (mkT (pp ++ (q ++ wrL L[i].1 L[i].2.2)).length)) = (L.map (mkT s.length)).take (i + 1) := by
        rw [← List.map_take, List.map_map]
        apply List.map_congr_left
        intro x hx
        have h1 := a6 x hx
        have h2 := lay_le lay x (List.mem_of_mem_take hx)
        simp only [Function.comp, mkT, S_api_Lexeme.mk.injEq, List.length_append, true_and, and_true]
        omega
      rw [heq, equal_same _ (by simp; omega) n (by simp; omega)]
      simp only [Option.bind_some, Bool.not_true, bindJ_goj, cond_false]
      refine .inl ⟨_, rfl, ⟨i + 1, ?_, hlt⟩, by simp; omega⟩
      have : endOf s L (i + 1) = pp.length + q.length + (wrL L[i].1 L[i].2.2).length := by
        simp only [endOf]
        rw [List.getElem?_eq_getElem hlt, Option.map_some, Option.getD_some]
        omega
      rw [this]
    · obtain rfl : i = L.length := by omega
      refine .inr ⟨_, ?_, rfl⟩
      simp only [List.length_map]
      rw [decide_eq_false (by omega), cond_false]) n (0, 0) ⟨0, rfl, by omega⟩ (by simp; omega)
  exact e
theorem law8_of (s : List UInt8) : ∃ m, law18_LexerCovers m s = some true := by
  obtain ⟨n, hsane, hn⟩ : ∃ n, law18_sanity n = some true ∧ 10000000 ≤ n := ⟨10000000 + 60, sane _, by omega⟩
  refine ⟨n, ?_⟩
  unfold law18_LexerCovers
  by_cases hc : 2000 < s.length
  · rw [decide_eq_true (by omega), cond_true, hsane]; rfl
  · rw [decide_eq_false (by omega), cond_false, tokens_eq s (by omega) n (by omega)]
    simp only [obind, Option.bind_some]
    rcases tokR_cases s with ⟨hnone, hR⟩ | ⟨a, e, hR, he⟩
    · have lay := lay_of kwP (s.length + 1) s (by omega) hnone
      rw [hR]
      generalize hL : (toksP kwP (s.length + 1) s).1 = L at *
      obtain ⟨hs1, hs2⟩ := lay_end lay
      simp only
      rw [show decide ((0 : Int) ≠ 0) = false from rfl, Bool.false_or]
      by_cases h2 : 200 < (L.map (mkT s.length)).length
      · rw [decide_eq_true (by omega), cond_true, hsane]; rfl
      · rw [decide_eq_false (by omega), cond_false, covers_loop s (by omega) L lay ⟨0, 0⟩ n (by omega), bindJ_goj, hsane]
        simp only [Option.bind_some, cond_true]
        rw [need_pos (by omega), Int.toNat_natCast, blank_eq _ (by rw [List.length_drop]; omega) n (by rw [List.length_drop]; omega), decide_eq_true hs1]
        rfl
    · rw [hR]
      simp only
      rw [decide_eq_true he, Bool.true_or, cond_true, hsane]
      rfl
end Go.Proofs.YtgibkdldfnlglaaGreatDoor
namespace Go.Abs
open Go.Sem Go.ChangeShapes Go.RowKit

/-- a law's contract, as the claim's frame wants it -/
theorem Meets.law {P : Program} {f : FuncId} {args : List Value} {H : List HA} (h : Meets P f args H (fun v G => v = .bool true ∧ G = [])) {w : World} (hs : Sats w (fun _ => .no) H) :
    Calls P f args.toArray w fun e w' => e = .returned (.bool true) ∧ Below w.heap.size w w' := by
  refine (h w (fun _ => .no) (fun _ _ => rfl) hs).mono fun e w' ⟨v, G, o', he, ⟨hv, _⟩, _, ht, _⟩ => ?_
  subst hv
  exact ⟨he, ht.os, ht.tape, ht.output, ht.size, fun k hk => (ht.no k hk rfl).2⟩

end Go.Abs
namespace Go.Abs
open Go.Sem Go.ChangeShapes Go.RowKit
end Go.Abs
namespace Go.Abs
open Go.Sem Go.ChangeShapes Go.RowKit
section
variable {H : Type} {enc : TypeId × Value → H} {P : Program} {w : World} {base : Nat} {sp : Nat → Bool} {held : Bool}
end
end Go.Abs
namespace Go.Abs
open Go.Sem Go.ChangeShapes Go.RowKit
section
variable {H : Type} {enc : TypeId × Value → H} {P : Program} {w : World} {base : Nat} {sp : Nat → Bool} {held : Bool}
def wfI (k : IntKind) (n : Int) : Prop := (Lit.int k n).wf = true
/-- a type is opened: what is read of it lies in the cells 'F a', and a is well formed -/
def Opens (enc : TypeId × Value → H) (P : Program) (w : World) (base : Nat) (sp : Nat → Bool) (held : Bool) (t : TypeId) {α : Type} (F : α → List Value) (wf : α → Prop) : Prop :=
  ∀ (fuel : Nat) (cs : List Value) (x : DataW H × List MemPlace), DataW.trod enc P w base sp held fuel t cs = some x → ∃ a, cs = F a ∧ wf a
end
end Go.Abs
namespace Go.Abs
open Go.Sem Go.ChangeShapes Go.RowKit
section
variable {H : Type} {enc : TypeId × Value → H} {P : Program} {w : World} {base : Nat} {sp : Nat → Bool} {held : Bool}
theorem opn_str {t : TypeId} (ht : P.underlying t = some .string) : Opens enc P w base sp held t eStr (fun l => l.length ≤ maxLen) := by
  intro fuel cs x h
  obtain ⟨s, hc, _, hl⟩ := DataW.trod_string ht h
  exact ⟨s.data.toList, by rw [hc]; rfl, hl⟩
def noO : Own := fun _ => .no
end
end Go.Abs
namespace Go.Abs
open Go.Sem Go.ChangeShapes Go.RowKit
theorem laid_at {P : Program} {w : World} {n : String} {d : DataW Unit} : ∀ {l : List (String × DataW Unit)} {ps : List MemPlace}, DataW.LaidVars P w l ps → (n, d) ∈ l →
    ∃ g t cs fuel p, P.globalNamed n = some g ∧ (P.globals[g]?).map (·.type) = some t ∧ w.var? P n = some cs ∧ DataW.trod (fun _ => ()) P w 0 (fun _ => true) false fuel t cs.toList = some (d, p)
  | [], _, _, h => by simp at h
  | (m, e) :: r, ps, ⟨g, t, cs, fuel, p, q, h1, h2, h3, h4, h5, _⟩, h => by
    rcases List.mem_cons.1 h with h | h
    · cases h; exact ⟨g, t, cs, fuel, p, h1, h2, h3, h4⟩
    · exact laid_at h5 h
theorem laid_tab {P : Program} {w : World} {l : List (String × DataW Unit)} {name : String} {k : IntKind} {zs : List Int} {g t e : Nat} {n : Nat} (h : laidMet P l w) (hm : (name, Lib.tabData k zs) ∈ l)
    (hg : P.globalNamed name = some g) (hty : (P.globals[g]?).map (·.type) = some t) (ht : P.underlying t = some (.array n e)) (he : P.underlying e = some (.int k)) (hce : P.cellsOf e = 1) (hct : P.cellsOf t = n) : Lib.TabIs P w name k zs := by
  obtain ⟨ps, hl, _⟩ := h
  obtain ⟨g', t', cs, fuel, p, hg', ht', hvar, hd⟩ := laid_at hl hm
  obtain rfl := Option.some.inj (hg.symm.trans hg')
  obtain rfl := Option.some.inj (hty.symm.trans ht')
  unfold Lib.TabIs
  rw [hvar, ← Lib.cells_of_tab ht he hce hct hd]
theorem laid_iface {P : Program} {w : World} {l : List (String × DataW Unit)} {name s : String} {d : DataW Unit} {g t : Nat} {ms : Array (String × TypeId)} (h : laidMet P l w) (hm : (name, DataW.iface s d) ∈ l)
    (hg : P.globalNamed name = some g) (hty : (P.globals[g]?).map (·.type) = some t) (ht : P.underlying t = some (.interface ms)) : ∃ u v, w.cell? ⟨g, 0, none⟩ = some (.iface u v) := by
  obtain ⟨ps, hl, _⟩ := h
  obtain ⟨g', t', cs, fuel, p, hg', ht', hvar, hd⟩ := laid_at hl hm
  obtain rfl := Option.some.inj (hg.symm.trans hg')
  obtain rfl := Option.some.inj (hty.symm.trans ht')
  have hc : ∃ u v, cs.toList = [.iface u v] := by
    cases fuel with
    | zero => simp [DataW.trod] at hd
    | succ fuel =>
      unfold DataW.trod at hd
      rw [ht] at hd
      split at hd <;> simp_all
  obtain ⟨u, v, hc⟩ := hc
  refine ⟨u, v, ?_⟩
  have := World.var?_cell hg hvar 0
  rw [this, ← Array.getElem?_toList, hc]; rfl
section
variable {H : Type} {enc : TypeId × Value → H} {P : Program} {w : World} {base : Nat} {sp : Nat → Bool} {held : Bool}
end
end Go.Abs
namespace Go.Proofs.YtgibkdldfnlglaaGreatDoor
open Go.Abs Go.ChangeShapes Go.RowKit
set_option maxRecDepth 100000
set_option linter.unusedVariables false
def S_api_Lexeme.wf (x : S_api_Lexeme) : Prop := wfI .i64 x.Kind ∧ wfI .i64 x.At ∧ x.S.length ≤ maxLen
end Go.Proofs.YtgibkdldfnlglaaGreatDoor
namespace Go.Proofs.YtgibkdldfnlglaaGreatDoor
open Go.Abs
theorem law8 (s : List UInt8) (_ : s.length ≤ maxLen) : ∃ m, law18_LexerCovers m s = some true := law8_of s
end Go.Proofs.YtgibkdldfnlglaaGreatDoor
namespace Go.Proofs.YtgibkdldfnlglaaGreatDoor
open Go.Abs
/-- so many blocks has the settled world -/
noncomputable def low : Nat := (World.holding Tryz.prog default ⟨#[], #[], []⟩).heap.size
/-- the settled world with the laid variables -/
noncomputable def laidWorld (os : Os) : World :=
  let w0 := World.holding Tryz.prog os ⟨#[.cells #[.string ⟨#[105, 110, 118, 97, 108, 105, 100, 32, 115, 121, 110, 116, 97, 120]⟩] 162, .cells #[.string ⟨#[118, 97, 108, 117, 101, 32, 111, 117, 116, 32, 111, 102, 32, 114, 97, 110, 103, 101]⟩] 162, .cells #[.slice (some ⟨low + 3, 0, none⟩) 7 7, .slice none 0 0, .int .i64 2] 136, .cells (([9, 13, 1, 32, 133, 101, 160, 5760, 5600, 8192, 8202, 1, 8232, 8233, 1, 8239, 8287, 48, 12288, 12288, 1] : List Int).map (Value.int .u16)).toArray 139], #[], []⟩
  { w0 with heap := (((((((w0.heap.modify 0 fun
      | .cells _ t frozen => .cells (([0, 0, 0, 0, 0, 0, 0, 0, 0, 1, 1, 1, 1, 1, 0, 0, 0, 0, 0, 0, 0, 0, 0, 0, 0, 0, 0, 0, 0, 0, 0, 0, 1, 0, 0, 0, 0, 0, 0, 0, 0, 0, 0, 0, 0, 0, 0, 0, 0, 0, 0, 0, 0, 0, 0, 0, 0, 0, 0, 0, 0, 0, 0, 0, 0, 0, 0, 0, 0, 0, 0, 0, 0, 0, 0, 0, 0, 0, 0, 0, 0, 0, 0, 0, 0, 0, 0, 0, 0, 0, 0, 0, 0, 0, 0, 0, 0, 0, 0, 0, 0, 0, 0, 0, 0, 0, 0, 0, 0, 0, 0, 0, 0, 0, 0, 0, 0, 0, 0, 0, 0, 0, 0, 0, 0, 0, 0, 0, 0, 0, 0, 0, 0, 0, 0, 0, 0, 0, 0, 0, 0, 0, 0, 0, 0, 0, 0, 0, 0, 0, 0, 0, 0, 0, 0, 0, 0, 0, 0, 0, 0, 0, 0, 0, 0, 0, 0, 0, 0, 0, 0, 0, 0, 0, 0, 0, 0, 0, 0, 0, 0, 0, 0, 0, 0, 0, 0, 0, 0, 0, 0, 0, 0, 0, 0, 0, 0, 0, 0, 0, 0, 0, 0, 0, 0, 0, 0, 0, 0, 0, 0, 0, 0, 0, 0, 0, 0, 0, 0, 0, 0, 0, 0, 0, 0, 0, 0, 0, 0, 0, 0, 0, 0, 0, 0, 0, 0, 0, 0, 0, 0, 0, 0, 0, 0, 0, 0, 0, 0, 0, 0, 0, 0, 0, 0, 0] : List Int).map (Value.int .u8)).toArray t frozen
      | o => o).modify 5 fun
      | .cells _ t frozen => .cells (([1, 10, 100, 1000, 10000, 100000, 1000000, 10000000, 100000000, 1000000000, 10000000000, 100000000000, 1000000000000, 10000000000000, 100000000000000, 1000000000000000, 10000000000000000, 100000000000000000, 1000000000000000000, 10000000000000000000] : List Int).map (Value.int .u64)).toArray t frozen
      | o => o).modify 6 fun
      | .cells _ t frozen => .cells (([0, 1, 28, 2, 29, 14, 24, 3, 30, 22, 20, 15, 25, 17, 4, 8, 31, 27, 13, 23, 21, 19, 16, 7, 26, 12, 18, 6, 11, 5, 10, 9] : List Int).map (Value.int .u8)).toArray t frozen
      | o => o).modify 7 fun
      | .cells _ t frozen => .cells (([0, 1, 56, 2, 57, 49, 28, 3, 61, 58, 42, 50, 38, 29, 17, 4, 62, 47, 59, 36, 45, 43, 51, 22, 53, 39, 33, 30, 24, 18, 12, 5, 63, 55, 48, 27, 60, 41, 37, 16, 46, 35, 44, 21, 52, 32, 23, 11, 54, 26, 40, 15, 34, 20, 31, 10, 25, 14, 19, 9, 13, 8, 7, 6] : List Int).map (Value.int .u8)).toArray t frozen
      | o => o).modify 3 fun
      | .cells _ t frozen => .cells #[.iface 160 (.pointer (some ⟨low, 0, none⟩))] t frozen
      | o => o).modify 4 fun
      | .cells _ t frozen => .cells #[.iface 160 (.pointer (some ⟨low + 1, 0, none⟩))] t frozen
      | o => o).modify 2 fun
      | .cells _ t frozen => .cells #[.pointer (some ⟨low + 2, 0, none⟩)] t frozen
      | o => o) }
def laidL : List (String × DataW Unit) := [("math/bits.deBruijn32tab", Rows.laid_math_bits_deBruijn32tab), ("math/bits.deBruijn64tab", Rows.laid_math_bits_deBruijn64tab), ("internal/strconv.uint64pow10", Rows.laid_internal_strconv_uint64pow10), ("strconv.ErrRange", Rows.laid_strconv_ErrRange), ("strconv.ErrSyntax", Rows.laid_strconv_ErrSyntax), ("unicode.White_Space", Rows.laid_unicode_White_Space), ("strings.asciiSpace", Rows.laid_strings_asciiSpace)]
theorem laidWorld_met (os : Os) (args : Array Value) : laidMet Tryz.prog laidL ((laidWorld os).forCall (fun _ _ => 0) ⟨#[], args, []⟩).memory :=
  laidMet_of_run' 8 (by kernel_rfl) (by kernel_rfl)
theorem globIs {W : World} (h : laidMet Tryz.prog laidL W) : GlobL W where
  errSyntax := let ⟨u, v, hc⟩ := laid_iface (s := "*errors.errorString") (d := .ptr (.agg [.lit (.string [105, 110, 118, 97, 108, 105, 100, 32, 115, 121, 110, 116, 97, 120])])) h (by simp [laidL, Rows.laid_strconv_ErrSyntax]) gSyn (t := 80) (by kernel_rfl) Tryz.underlying80; ⟨3, u, v, gSyn, by decide, hc⟩
  errRange := let ⟨u, v, hc⟩ := laid_iface (s := "*errors.errorString") (d := .ptr (.agg [.lit (.string [118, 97, 108, 117, 101, 32, 111, 117, 116, 32, 111, 102, 32, 114, 97, 110, 103, 101])])) h (by simp [laidL, Rows.laid_strconv_ErrRange]) gRng (t := 80) (by kernel_rfl) Tryz.underlying80; ⟨4, u, v, gRng, by decide, hc⟩
  space := ⟨0, gSpc, by decide, laid_tab h (List.mem_cons_of_mem _ (List.mem_cons_of_mem _ (List.mem_cons_of_mem _ (List.mem_cons_of_mem _ (List.mem_cons_of_mem _ (List.mem_cons_of_mem _ (List.mem_cons.2 (.inl (by kernel_rfl))))))))) gSpc (t := 88) (by kernel_rfl) Tryz.underlying88 Tryz.underlying5 (by kernel_rfl) (by kernel_rfl)⟩
theorem laid_size {W : World} (h : laidMet Tryz.prog laidL W) : 8 ≤ W.heap.size := by
  obtain ⟨ps, hl, _⟩ := h
  obtain ⟨g, t, cs, fuel, p, e1, _, e3, _⟩ := laid_at (n := "math/bits.deBruijn64tab") hl (List.mem_cons_of_mem _ (List.mem_cons_self ..))
  have eg : Tryz.prog.globalNamed "math/bits.deBruijn64tab" = some 7 := by kernel_rfl
  obtain rfl := Option.some.inj (eg.symm.trans e1)
  unfold World.var? at e3
  rw [eg] at e3
  simp only [Option.bind_some] at e3
  by_cases h : 7 < W.heap.size
  · omega
  · rw [Array.getElem?_eq_none (by omega)] at e3; simp at e3
theorem globP {W : World} (h : laidMet Tryz.prog laidL W) (hs : W.ShapedOpen Tryz.prog) (k : Nat) : globA.p W noO k := ⟨laid_size h, fun _ _ => rfl, globIs h⟩
end Go.Proofs.YtgibkdldfnlglaaGreatDoor
