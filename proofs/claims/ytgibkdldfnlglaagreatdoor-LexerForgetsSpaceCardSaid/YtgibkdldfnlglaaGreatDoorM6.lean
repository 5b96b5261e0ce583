/-
  Texts that stand side by side: Pm, AbsEnd, AbsEnd2, AbsEnd3, AbsEnd4, AbsEnd5, AbsLaid, Opn, P7, LaidL.
-/
import Derived.Test.YtgibkdldfnlglaaGreatDoorM5
import Derived.Test.YtgibkdldfnlglaaGreatDoorM0
import Derived.WalkKit
import Derived.ProofKit
import Derived.OpenShut
import Derived.ShutString
import Derived.ChangeOld
import Derived.Below
import Derived.SliceStrings
import Derived.Test.YtgibkdldfnlglaaGreatDoorM1
import Derived.ChangeArms
import Derived.LaidHandle
import Derived.Deep.DeepHandedRow
import Derived.Test.YtgibkdldfnlglaaGreatDoorFb
import Derived.Test.YtgibkdldfnlglaaGreatDoorRows
import Derived.Test.YtgibkdldfnlglaaGreatDoorChecked
namespace Go.Proofs.YtgibkdldfnlglaaGreatDoor
open Go.Abs Go.Lex
set_option linter.unusedSimpArgs false
set_option linter.unusedVariables false
theorem drop_take_one {α : Type} {l : List α} {i : Nat} (h : i < l.length) : (l.take (i + 1)).drop i = [l[i]] := by
  rw [take_snoc h, List.drop_append_of_le_length (by simp; omega)]
  simp
theorem bindJ_stopj {S R : Type} (r : R) (k : S → Option R) : bindJ (some (.stop r)) k = some r := rfl
theorem forget_loop (gaps : List (List UInt8)) (p : S_api_Problem) (l : List S_api_Lexeme) (hl : l.length ≤ 2000) (hlen : ∀ t ∈ l, (wr t).length ≤ 2000) (ht : ∀ t ∈ l, Tok kwP t.Kind t.S) (hS : ∀ t ∈ l, t.S.length ≤ 2000) (n : Nat) (hn : 1000000 < n) (hsane : law18_sanity n = some true) :
    ∃ r, iter (law18_LexerForgetsSpace_L1 n gaps (l, p)) n ([], 0) = some r ∧ (r = .stop true ∨ ∃ P : List (List UInt8 × Int × List UInt8), r = .go (catL P) ∧ P.map (·.2) = l.map keyT ∧ (∀ x ∈ P, GapOk x.1 ∧ GapSep x.1) ∧ (catL P).length ≤ l.length * 2101) := by
  refine iter_inv (step := law18_LexerForgetsSpace_L1 n gaps (l, p)) (fun x => ∃ (i : Nat) (P : List (List UInt8 × Int × List UInt8)), x = (catL P, (i : Int)) ∧ i ≤ l.length ∧ P.map (·.2) = (l.take i).map keyT ∧ (∀ x ∈ P, GapOk x.1 ∧ GapSep x.1) ∧ (catL P).length ≤ i * 2101)
    (fun x => l.length - x.2.toNat) _ ?_ n ([], 0) ⟨0, [], rfl, by omega, rfl, by simp, by simp [catL]⟩ (by simp; omega)
  rintro _ ⟨i, P, rfl, hi, hk, hg, hb⟩
  unfold law18_LexerForgetsSpace_L1
  by_cases hlt : i < l.length
  · have hm : l[i] ∈ l := List.getElem_mem hlt
    have hw := hlen _ hm
    have hb2 : i * 2101 ≤ 2000 * 2101 := Nat.mul_le_mul_right _ (by omega)
    -- behind the gap
    have step : ∀ g : List UInt8, skipP false g = [] → g.length ≤ 100 → ∃ s', (need (0 ≤ (i : Int) ∧ (i : Int) ≤ (IntKind.i64.wrap ((i : Int) + 1)) ∧ (IntKind.i64.wrap ((i : Int) + 1)) ≤ (l.length : Int)) (
        obind (lexer_Text n ((l.take (((IntKind.i64.wrap ((i : Int) + 1))).toNat)).drop (i : Int).toNat)) fun r69 =>
        cond (decide (r69.2 ≠ 0)) (some (.stop (.stop false)))
         (need ((catL P ++ g).length + ([10] : List UInt8).length ≤ 4294967296) (
         need (((catL P ++ g) ++ ([10] : List UInt8)).length + r69.1.length ≤ 4294967296) (
         some (.go ((((catL P ++ g) ++ ([10] : List UInt8)) ++ r69.1), (IntKind.i64.wrap ((i : Int) + 1)))))))) : Option (Lp ((List UInt8) × Int) (Lp ((List UInt8)) (Bool)))) = some (.go s') ∧
        (∃ (i' : Nat) (P' : List (List UInt8 × Int × List UInt8)), s' = (catL P', (i' : Int)) ∧ i' ≤ l.length ∧ P'.map (·.2) = (l.take i').map keyT ∧ (∀ x ∈ P', GapOk x.1 ∧ GapSep x.1) ∧ (catL P').length ≤ i' * 2101) ∧ l.length - s'.2.toNat < l.length - (i : Int).toNat := by
      intro g hs hgl
      have e1 : IntKind.i64.wrap ((i : Int) + 1) = ((i + 1 : Nat) : Int) := by rw [w64 (by omega) (by omega)]; omega
      have hc : catL (P ++ [(g ++ [10], l[i].Kind, l[i].S)]) = catL P ++ g ++ [10] ++ wr l[i] := by
        rw [catL_app]; simp only [catL, List.append_nil, List.append_assoc, wr_eq]
      refine ⟨_, ?_, ⟨i + 1, P ++ [(g ++ [10], l[i].Kind, l[i].S)], rfl, hlt, ?_, ?_, ?_⟩, ?_⟩
      · rw [e1, need_pos (by omega), Int.toNat_natCast, Int.toNat_natCast, drop_take_one hlt, text_val [l[i]] (by simp) (fun t ht' => by rw [List.mem_singleton.1 ht']; have := hS _ hm; omega) n hn, textR_one (ht _ hm) (by omega)]
        simp only [obind, Option.bind_some]
        rw [show decide ((0 : Int) ≠ 0) = false from rfl, cond_false, need_pos (by simp only [List.length_append, List.length_cons, List.length_nil]; omega), need_pos (by simp only [List.length_append, List.length_cons, List.length_nil]; omega), hc]
      · rw [List.map_append, hk, take_snoc hlt, List.map_append]; rfl
      · intro x hx
        rcases List.mem_append.1 hx with hx | hx
        · exact hg x hx
        · rw [List.mem_singleton.1 hx]; exact ⟨gapOk_lf hs, gapSep_lf hs⟩
      · rw [hc]; simp only [List.length_append, List.length_cons, List.length_nil]; omega
      · simp only [Int.toNat_natCast]; omega
    simp only
    rw [decide_eq_true (show (i : Int) < (l.length : Int) by omega), cond_true]
    by_cases h0 : gaps.length = 0
    · obtain ⟨s', h1, h2, h3⟩ := step [] rfl (by simp)
      rw [decide_eq_false (by omega), cond_false, bindJ_goj]
      rw [List.append_nil] at h1
      exact .inl ⟨s', h1, h2, h3⟩
    · have hmod : ((i : Int).tmod (gaps.length : Int)) = ((i % gaps.length : Nat) : Int) := by
        rw [Int.tmod_eq_emod_of_nonneg (by omega)]; rfl
      have hj : i % gaps.length < gaps.length := Nat.mod_lt _ (by omega)
      rw [decide_eq_true (by omega), cond_true, need_pos (by omega), hmod, idx_get' hj]
      by_cases hlong : 100 < (gaps[i % gaps.length]).length
      · rw [decide_eq_true (by omega), cond_true, bindJ_goj, cond_true, hsane]
        simp only [obind, Option.bind_some, bindJ_stopj]
        exact .inr ⟨_, rfl, .inl rfl⟩
      · rw [decide_eq_false (by omega), cond_false, blank_eq _ (by omega) n (by omega)]
        simp only [obind, Option.bind_some, bindJ_goj]
        by_cases hbl : skipP false gaps[i % gaps.length] = []
        · obtain ⟨s', h1, h2, h3⟩ := step gaps[i % gaps.length] hbl (by omega)
          rw [decide_eq_true hbl]
          simp only [Bool.not_true, cond_false]
          rw [need_pos (by omega), bindJ_goj]
          exact .inl ⟨s', h1, h2, h3⟩
        · rw [decide_eq_false hbl]
          simp only [Bool.not_false, cond_true]
          rw [hsane]
          simp only [Option.bind_some, bindJ_stopj]
          exact .inr ⟨_, rfl, .inl rfl⟩
  · obtain rfl : i = l.length := by omega
    refine .inr ⟨_, ?_, .inr ⟨P, rfl, by rw [hk, List.take_length], hg, hb⟩⟩
    simp only
    rw [decide_eq_false (by omega), cond_false]
theorem law7_of (s : List UInt8) (gaps : List (List UInt8)) : ∃ m, law18_LexerForgetsSpace m s gaps = some true := by
  obtain ⟨n, hsane, hn⟩ : ∃ n, law18_sanity n = some true ∧ 10000000 ≤ n := ⟨10000000 + 60, sane _, by omega⟩
  refine ⟨n, ?_⟩
  unfold law18_LexerForgetsSpace
  by_cases hc : 2000 < s.length ∨ 20 < gaps.length
  · rw [show (decide (2000 < (s.length : Int)) || decide (20 < (gaps.length : Int))) = true by simp only [Bool.or_eq_true, decide_eq_true_eq]; omega, cond_true, hsane]
    rfl
  · rw [show (decide (2000 < (s.length : Int)) || decide (20 < (gaps.length : Int))) = false by rw [Bool.eq_false_iff]; intro h; simp only [Bool.or_eq_true, decide_eq_true_eq] at h; omega, cond_false]
    rw [tokens_eq s (by omega) n (by omega)]
    simp only [obind, Option.bind_some]
    rcases tokR_cases s with ⟨hnone, hR⟩ | ⟨a, e, hR, he⟩
    · have lay := lay_of kwP (s.length + 1) s (by omega) hnone
      generalize hL : (toksP kwP (s.length + 1) s).1 = L at *
      obtain ⟨hs1, hs2, htok⟩ := lay_sum lay
      have hle : ∀ x ∈ L, (wrL x.1 x.2.2).length ≤ s.length := by
        intro x hx
        exact Nat.le_trans (le_sum _ _ (List.mem_map.2 ⟨x, hx, rfl⟩)) hs1
      have hSl : ∀ x ∈ L, x.2.2.length ≤ s.length := by
        intro x hx
        have := hle x hx
        unfold Lex.wrL at this
        split at this
        · have h2 := esc_len x.2.2
          have h3 : escL x.2.2 = esc x.2.2 := rfl
          rw [h3] at this
          simp only [List.length_append] at this; omega
        · exact this
      have htl := mem_map_tok (s := s) (N := s.length) htok
      have hjs : (joinP ((L.map (mkT s.length)).map wr) [32]).length ≤ 4000 := by
        have h1 := join_sum ((L.map (mkT s.length)).map wr)
        rw [List.map_map, List.map_map, List.length_map] at h1
        have h2 : (L.map (List.length ∘ (wr ∘ mkT s.length))).sum = (L.map fun x => (wrL x.1 x.2.2).length).sum := rfl
        rw [List.map_map]
        omega
      have hSt : ∀ t ∈ L.map (mkT s.length), t.S.length ≤ 2000 := by
        intro t ht
        obtain ⟨x, hx, rfl⟩ := List.mem_map.1 ht
        have := hSl x hx
        show x.2.2.length ≤ 2000
        omega
      have hWt : ∀ t ∈ L.map (mkT s.length), (wr t).length ≤ 2000 := by
        intro t ht
        obtain ⟨x, hx, rfl⟩ := List.mem_map.1 ht
        have := hle x hx
        show (wrL x.1 x.2.2).length ≤ 2000
        omega
      rw [hR]
      generalize hl : L.map (mkT s.length) = l at *
      have hll : l.length ≤ 2000 := by rw [← hl, List.length_map]; omega
      simp only
      rw [show decide ((0 : Int) ≠ 0) = false from rfl, cond_false, text_val l (by omega) (fun t ht => by have := hSt t ht; omega) n (by omega), textR_ok htl (by omega)]
      simp only [Option.bind_some]
      rw [tokens_eq _ (by omega) n (by omega)]
      simp only [Option.bind_some]
      -- the tokens, with a space between each two
      have h1 : ∃ M, tokR (joinP (l.map wr) [32]) = (M, ⟨0, 0⟩) ∧ M.map keyT = l.map keyT := by
        match l, htl with
        | [], _ => exact ⟨[], rfl, rfl⟩
        | t :: l, htl =>
          obtain ⟨M, e1, e2⟩ := toks_cat kwP (([], t.Kind, t.S) :: l.map fun x => ([32], x.Kind, x.S)) (by
            intro x hx
            rcases List.mem_cons.1 hx with rfl | hx
            · exact ⟨gapOk_nil, htl t (List.mem_cons_self ..)⟩
            · obtain ⟨y, hy, rfl⟩ := List.mem_map.1 hx
              exact ⟨gapOk_space, htl y (List.mem_cons_of_mem _ hy)⟩) (by
            intro x hx
            obtain ⟨y, hy, rfl⟩ := List.mem_map.1 hx
            exact gapSep_space) _ (Nat.lt_succ_self _)
          rw [← join_cat] at e1
          refine ⟨M.map (mkT (joinP ((t :: l).map wr) [32]).length), tokR_ok e1, ?_⟩
          have : (M.map (mkT (joinP ((t :: l).map wr) [32]).length)).map keyT = M.map fun x => (x.1, x.2.2) := by rw [List.map_map]; rfl
          rw [this, e2]
          simp only [List.map_cons, List.map_map]
          rfl
      obtain ⟨M, hM, hMk⟩ := h1
      rw [hM]
      simp only [ne_eq, not_true_eq_false, decide_false, Bool.or_self, cond_false]
      rw [same_eq l M hMk.symm (by omega) n (by omega)]
      simp only [Option.bind_some, bindJ_goj, Bool.not_true, cond_false]
      obtain ⟨r, hr, hr2⟩ := forget_loop gaps ⟨0, 0⟩ l hll hWt htl hSt n (by omega) hsane
      rw [hr]
      rcases hr2 with rfl | ⟨P, rfl, hP, hg, hb⟩
      · rfl
      · rw [bindJ_goj]
        have hb2 : l.length * 2101 ≤ 2000 * 2101 := Nat.mul_le_mul_right _ (by omega)
        by_cases hlong : 65536 < (catL P).length
        · rw [tokens_long _ hlong]
          simp only [Option.bind_some]
          rw [decide_eq_true (by omega), cond_true, hsane]
          rfl
        · rw [tokens_eq _ (by omega) n (by omega)]
          simp only [Option.bind_some]
          rw [decide_eq_false (by omega), cond_false, hsane]
          obtain ⟨Q, e1, e2⟩ := toks_cat kwP P (by
            intro x hx
            refine ⟨(hg x hx).1, ?_⟩
            have : x.2 ∈ l.map keyT := by rw [← hP]; exact List.mem_map.2 ⟨x, hx, rfl⟩
            obtain ⟨t, ht, e⟩ := List.mem_map.1 this
            have := htl t ht
            rw [← e]; exact this) (fun x hx => (hg x (List.mem_of_mem_tail hx)).2) _ (Nat.lt_succ_self _)
          rw [tokR_ok e1]
          have hq : (Q.map (mkT (catL P).length)).map keyT = l.map keyT := by
            rw [List.map_map, ← hP, ← e2]; rfl
          simp only [Option.bind_some, decide_true, Bool.and_self, cond_true]
          rw [same_eq l _ hq.symm (by omega) n (by omega)]
          rfl
    · rw [hR]
      simp only
      rw [decide_eq_true he, cond_true, hsane]
      rfl
end Go.Proofs.YtgibkdldfnlglaaGreatDoor
namespace Go.Abs
open Go.Sem Go.ChangeShapes Go.RowKit

/-- a law's contract, as the claim's frame wants it -/
theorem Meets.law {P : Program} {f : FuncId} {args : List Value} {H : List HA} (h : Meets P f args H (fun v G => v = .bool true ∧ G = [])) {w : World} (hs : Sats w (fun _ => .no) H) :
    Calls P f args.toArray w fun e w' => e = .returned (.bool true) ∧ Below w.heap.size w w' := by
  refine (h w (fun _ => .no) (fun _ _ => rfl) hs).mono fun e w' ⟨v, G, o', he, ⟨hv, _⟩, _, ht, _⟩ => ?_
  subst hv
  exact ⟨he, ht.os, ht.tape, ht.output, ht.size, fun k hk => (ht.no k hk rfl).2⟩

theorem cells_open {w : World} {a : Option Addr} {len cap es : Nat} {cells : List (List Value)} (hcl : cells.length = len) (h1 : len ≤ cap) (h2 : cap ≤ maxLen) (h3 : a = none → cap = 0) (hes : 0 < es)
    (he : ∀ c ∈ cells, c.length = es) (hc : ∀ x, a = some x → ∀ i c, cells[i]? = some c → ∀ j v, c[j]? = some v → w.cell? (x.add (i * es + j)) = some v) :
    SliceIs w (fun b => (fun _ => Ow.no : Own) b = .no) (.slice a len cap) es cells := by
  refine ⟨a, cap, by rw [hcl], by omega, h2, h3, ?_⟩
  intro i c hi
  have hlen := he c (List.mem_of_getElem? hi)
  cases a with
  | none =>
    have := (List.getElem?_eq_some_iff.1 hi).1
    have := h3 rfl
    omega
  | some x =>
    have e0 : c[0]? = some (c[0]'(by omega)) := List.getElem?_eq_getElem (by omega)
    have h := hc x rfl i c hi 0 _ e0
    have hs0 := World.cell?_spot h
    have hb : x.block < w.heap.size := by
      unfold World.cell? at h
      have e : (x.add (i * es + 0)).block = x.block := by unfold Addr.add; split <;> rfl
      rw [e] at h
      cases hh : w.heap[x.block]? with
      | none => rw [hh] at h; simp at h
      | some o => exact (Array.getElem?_eq_some_iff.1 hh).1
    obtain ⟨b, off, spot⟩ := x
    refine ⟨hlen, b, off, ?_, hb, rfl, ?_⟩
    · cases spot with
      | none => rfl
      | some q =>
        exfalso
        have hi0 : ∀ i c, cells[i]? = some c → i = 0 := by
          intro i c hi
          false_or_by_contra
          have hlen := he c (List.mem_of_getElem? hi)
          have hi00 : cells[0]? = some (cells[0]'(by have := (List.getElem?_eq_some_iff.1 hi).1; omega)) := List.getElem?_eq_getElem _
          have hl0 := he _ (List.mem_of_getElem? hi00)
          have h := hc _ rfl 0 _ hi00 0 _ (List.getElem?_eq_getElem (by omega))
          have := World.cell?_spot h
          simp [Addr.add] at this
        have := hi0 i c hi
        subst this
        simp [Addr.add] at hs0
    · intro j v hj
      have h' := hc _ rfl i c hi j v hj
      have hsp := World.cell?_spot h'
      rw [← h']
      congr 1
      unfold Addr.add at hsp ⊢
      split
      · rename_i h0
        rw [if_pos h0] at hsp
        simp only at hsp
        rw [hsp]
        have : off + i * es + j = off := by omega
        rw [this]
      · rw [Nat.add_assoc]
theorem slice_nil {w : World} {B : Nat → Prop} {es : Nat} : SliceIs w B (.slice none 0 0) es [] := ⟨none, 0, rfl, by simp, by unfold maxLen; omega, fun _ => rfl, fun i c h => by simp at h⟩
end Go.Abs
namespace Go.Abs
open Go.Sem Go.ChangeShapes Go.RowKit
end Go.Abs
namespace Go.Abs
open Go.Sem Go.ChangeShapes Go.RowKit
section
variable {H : Type} {enc : TypeId × Value → H} {P : Program} {w : World} {base : Nat} {sp : Nat → Bool} {held : Bool}
end
end Go.Abs
namespace Go.Abs
open Go.Sem Go.ChangeShapes Go.RowKit
section
variable {H : Type} {enc : TypeId × Value → H} {P : Program} {w : World} {base : Nat} {sp : Nat → Bool} {held : Bool}
def wfI (k : IntKind) (n : Int) : Prop := (Lit.int k n).wf = true
/-- a type is opened: what is read of it lies in the cells 'F a', and a is well formed -/
def Opens (enc : TypeId × Value → H) (P : Program) (w : World) (base : Nat) (sp : Nat → Bool) (held : Bool) (t : TypeId) {α : Type} (F : α → List Value) (wf : α → Prop) : Prop :=
  ∀ (fuel : Nat) (cs : List Value) (x : DataW H × List MemPlace), DataW.trod enc P w base sp held fuel t cs = some x → ∃ a, cs = F a ∧ wf a
/-- the elements of a slice that is opened -/
theorem opn_slice {t e : TypeId} {es : Nat} {α : Type} {F : α → List Value} {wf : α → Prop} (ht : P.underlying t = some (.slice e)) (hce : P.cellsOf e = es) (hes : 0 < es) (hF : ∀ a, (F a).length = es)
    (ho : Opens enc P w base sp held e F wf) {fuel : Nat} {cs : List Value} {x : DataW H × List MemPlace} (h : DataW.trod enc P w base sp held fuel t cs = some x) :
    ∃ (v : Value) (l : List α), cs = [v] ∧ (∀ a ∈ l, wf a) ∧ SliceIs w (fun b => (fun _ => Ow.no : Own) b = .no) v es (l.map F) ∧
      ((x = (.nil, []) ∧ l = []) ∨ ∃ ys rs ps, x = (.slice ys rs, ps) ∧ ys.length = l.length) := by
  rcases DataW.trod_slice ht h with ⟨rfl, hx⟩ | ⟨a, len, cap, elems, rest, m, _, rfl, rfl, hb, hl, hm, hlen, hel', hsp, hns⟩
  · exact ⟨_, [], rfl, by simp, slice_nil, .inl ⟨hx, rfl⟩⟩
  · have each : ∀ i, i < len → ∃ d : α, wf d ∧ ∀ j v, (F d)[j]? = some v → w.cell? (a.add (i * es + j)) = some v := by
      intro i hi
      have h1 := hel' i hi
      rw [List.getElem?_eq_getElem (by omega), hce, Option.bind_eq_some_iff] at h1
      obtain ⟨cs', hcs, hy⟩ := h1
      obtain ⟨d, rfl, hd⟩ := ho _ _ _ hy
      refine ⟨d, hd, fun j v hj => ?_⟩
      have hjlt : j < es := by have := (List.getElem?_eq_some_iff.1 hj).1; rw [hF] at this; omega
      have := (World.cells?_some hcs).2.2 j hjlt
      rw [hj] at this
      rw [← this]
      congr 1
      unfold Addr.add
      by_cases e1 : i * es = 0
      · rw [if_pos e1]; simp [e1]
      · rw [if_neg e1, if_neg (by omega)]
        by_cases e2 : j = 0
        · simp [e2]
        · rw [if_neg e2]; simp [Nat.add_assoc]
    have hch : ∃ l : List α, l.length = len ∧ ∀ i d, l[i]? = some d → wf d ∧ ∀ j v, (F d)[j]? = some v → w.cell? (a.add (i * es + j)) = some v := by
      clear hel' hlen hsp hns hl h
      induction len with
      | zero => exact ⟨[], rfl, by simp⟩
      | succ k ih =>
        obtain ⟨l, hl1, hl2⟩ := ih (fun i hi => each i (by omega))
        obtain ⟨d, hd1, hd2⟩ := each k (by omega)
        refine ⟨l ++ [d], by simp [hl1], fun i d' hi => ?_⟩
        by_cases hik : i < k
        · rw [List.getElem?_append_left (by omega)] at hi; exact hl2 i d' hi
        · rw [List.getElem?_append_right (by omega)] at hi
          have : i = k := by have := (List.getElem?_eq_some_iff.1 hi).1; simp at this; omega
          subst this
          rw [hl1, Nat.sub_self] at hi
          simp at hi
          subst hi
          exact ⟨hd1, hd2⟩
    obtain ⟨l, hl1, hl2⟩ := hch
    refine ⟨_, l, rfl, ?_, ?_, .inr ⟨_, _, _, rfl, by simp [hlen, hl1]⟩⟩
    · intro d hd
      obtain ⟨i, hi⟩ := List.getElem?_of_mem hd
      exact (hl2 i d hi).1
    · refine cells_open (by rw [List.length_map, hl1]) hl hm (by simp) hes ?_ ?_
      · intro c hc
        obtain ⟨d, hd, rfl⟩ := List.mem_map.1 hc
        exact hF d
      · intro x hx i c hi j v hj
        cases hx
        simp only [List.getElem?_map, Option.map_eq_some_iff] at hi
        obtain ⟨d, hd, rfl⟩ := hi
        exact (hl2 i d hd).2 j v hj
end
end Go.Abs
namespace Go.Abs
open Go.Sem Go.ChangeShapes Go.RowKit
section
variable {H : Type} {enc : TypeId × Value → H} {P : Program} {w : World} {base : Nat} {sp : Nat → Bool} {held : Bool}
theorem opn_str {t : TypeId} (ht : P.underlying t = some .string) : Opens enc P w base sp held t eStr (fun l => l.length ≤ maxLen) := by
  intro fuel cs x h
  obtain ⟨s, hc, _, hl⟩ := DataW.trod_string ht h
  exact ⟨s.data.toList, by rw [hc]; rfl, hl⟩
def noO : Own := fun _ => .no
theorem slice_len {t e : TypeId} (ht : P.underlying t = some (.slice e)) {fuel : Nat} {cs : List Value} {x : DataW H × List MemPlace} (h : DataW.trod enc P w base sp held fuel t cs = some x) {N : Nat}
    (hx : (x = (.nil, []) ∧ N = 0) ∨ ∃ ys rs ps, x = (.slice ys rs, ps) ∧ ys.length = N) : N ≤ maxLen := by
  rcases DataW.trod_slice ht h with ⟨_, h0⟩ | ⟨a, len, cap, elems, rest, m, _, _, h0, _, hl, hm, hlen, _⟩
  · rcases hx with ⟨_, rfl⟩ | ⟨ys, rs, ps, h1, _⟩
    · exact Nat.zero_le _
    · rw [h0] at h1; cases h1
  · rcases hx with ⟨h1, _⟩ | ⟨ys, rs, ps, h1, h2⟩
    · rw [h0] at h1; cases h1
    · rw [h0] at h1; cases h1; rw [List.length_map] at h2; omega
theorem opn_leafL {t e : TypeId} {es : Nat} {α : Type} {F : α → List Value} {wf : α → Prop} (ht : P.underlying t = some (.slice e)) (hce : P.cellsOf e = es) (hes : 0 < es) (hF : ∀ a, (F a).length = es)
    (ho : Opens enc P w base sp held e F wf) {fuel : Nat} {cs : List Value} {x : DataW H × List MemPlace} (h : DataW.trod enc P w base sp held fuel t cs = some x) :
    ∃ (v : Value) (l : List α), cs = [v] ∧ (l.length ≤ maxLen ∧ ∀ a ∈ l, wf a) ∧ ∀ k, (ro v es (l.map F)).p w noO k := by
  obtain ⟨v, l, h1, h2, h3, h4⟩ := opn_slice ht hce hes hF ho h
  refine ⟨v, l, h1, ⟨slice_len ht h ?_, h2⟩, fun _ => h3⟩
  rcases h4 with ⟨h5, rfl⟩ | h5
  · exact .inl ⟨h5, rfl⟩
  · exact .inr h5
end
end Go.Abs
namespace Go.Abs
open Go.Sem Go.ChangeShapes Go.RowKit
theorem laid_at {P : Program} {w : World} {n : String} {d : DataW Unit} : ∀ {l : List (String × DataW Unit)} {ps : List MemPlace}, DataW.LaidVars P w l ps → (n, d) ∈ l →
    ∃ g t cs fuel p, P.globalNamed n = some g ∧ (P.globals[g]?).map (·.type) = some t ∧ w.var? P n = some cs ∧ DataW.trod (fun _ => ()) P w 0 (fun _ => true) false fuel t cs.toList = some (d, p)
  | [], _, _, h => by simp at h
  | (m, e) :: r, ps, ⟨g, t, cs, fuel, p, q, h1, h2, h3, h4, h5, _⟩, h => by
    rcases List.mem_cons.1 h with h | h
    · cases h; exact ⟨g, t, cs, fuel, p, h1, h2, h3, h4⟩
    · exact laid_at h5 h
theorem laid_tab {P : Program} {w : World} {l : List (String × DataW Unit)} {name : String} {k : IntKind} {zs : List Int} {g t e : Nat} {n : Nat} (h : laidMet P l w) (hm : (name, Lib.tabData k zs) ∈ l)
    (hg : P.globalNamed name = some g) (hty : (P.globals[g]?).map (·.type) = some t) (ht : P.underlying t = some (.array n e)) (he : P.underlying e = some (.int k)) (hce : P.cellsOf e = 1) (hct : P.cellsOf t = n) : Lib.TabIs P w name k zs := by
  obtain ⟨ps, hl, _⟩ := h
  obtain ⟨g', t', cs, fuel, p, hg', ht', hvar, hd⟩ := laid_at hl hm
  obtain rfl := Option.some.inj (hg.symm.trans hg')
  obtain rfl := Option.some.inj (hty.symm.trans ht')
  unfold Lib.TabIs
  rw [hvar, ← Lib.cells_of_tab ht he hce hct hd]
theorem laid_iface {P : Program} {w : World} {l : List (String × DataW Unit)} {name s : String} {d : DataW Unit} {g t : Nat} {ms : Array (String × TypeId)} (h : laidMet P l w) (hm : (name, DataW.iface s d) ∈ l)
    (hg : P.globalNamed name = some g) (hty : (P.globals[g]?).map (·.type) = some t) (ht : P.underlying t = some (.interface ms)) : ∃ u v, w.cell? ⟨g, 0, none⟩ = some (.iface u v) := by
  obtain ⟨ps, hl, _⟩ := h
  obtain ⟨g', t', cs, fuel, p, hg', ht', hvar, hd⟩ := laid_at hl hm
  obtain rfl := Option.some.inj (hg.symm.trans hg')
  obtain rfl := Option.some.inj (hty.symm.trans ht')
  have hc : ∃ u v, cs.toList = [.iface u v] := by
    cases fuel with
    | zero => simp [DataW.trod] at hd
    | succ fuel =>
      unfold DataW.trod at hd
      rw [ht] at hd
      split at hd <;> simp_all
  obtain ⟨u, v, hc⟩ := hc
  refine ⟨u, v, ?_⟩
  have := World.var?_cell hg hvar 0
  rw [this, ← Array.getElem?_toList, hc]; rfl
section
variable {H : Type} {enc : TypeId × Value → H} {P : Program} {w : World} {base : Nat} {sp : Nat → Bool} {held : Bool}
end
end Go.Abs
namespace Go.Proofs.YtgibkdldfnlglaaGreatDoor
open Go.Abs Go.ChangeShapes Go.RowKit
set_option maxRecDepth 100000
set_option linter.unusedVariables false
def S_api_Lexeme.wf (x : S_api_Lexeme) : Prop := wfI .i64 x.Kind ∧ wfI .i64 x.At ∧ x.S.length ≤ maxLen
end Go.Proofs.YtgibkdldfnlglaaGreatDoor
namespace Go.Proofs.YtgibkdldfnlglaaGreatDoor
open Go.Abs
theorem law7 (s : List UInt8) (gaps : List (List UInt8)) (_ : s.length ≤ maxLen) (_ : gaps.length ≤ maxLen ∧ ∀ x ∈ gaps, x.length ≤ maxLen) : ∃ m, law18_LexerForgetsSpace m s gaps = some true := law7_of s gaps
end Go.Proofs.YtgibkdldfnlglaaGreatDoor
namespace Go.Proofs.YtgibkdldfnlglaaGreatDoor
open Go.Abs
/-- so many blocks has the settled world -/
noncomputable def low : Nat := (World.holding Tryz.prog default ⟨#[], #[], []⟩).heap.size
/-- the settled world with the laid variables -/
noncomputable def laidWorld (os : Os) : World :=
  let w0 := World.holding Tryz.prog os ⟨#[.cells #[.string ⟨#[105, 110, 118, 97, 108, 105, 100, 32, 115, 121, 110, 116, 97, 120]⟩] 162, .cells #[.string ⟨#[118, 97, 108, 117, 101, 32, 111, 117, 116, 32, 111, 102, 32, 114, 97, 110, 103, 101]⟩] 162, .cells #[.slice (some ⟨low + 3, 0, none⟩) 7 7, .slice none 0 0, .int .i64 2] 136, .cells (([9, 13, 1, 32, 133, 101, 160, 5760, 5600, 8192, 8202, 1, 8232, 8233, 1, 8239, 8287, 48, 12288, 12288, 1] : List Int).map (Value.int .u16)).toArray 139], #[], []⟩
  { w0 with heap := (((((((w0.heap.modify 0 fun
      | .cells _ t frozen => .cells (([0, 0, 0, 0, 0, 0, 0, 0, 0, 1, 1, 1, 1, 1, 0, 0, 0, 0, 0, 0, 0, 0, 0, 0, 0, 0, 0, 0, 0, 0, 0, 0, 1, 0, 0, 0, 0, 0, 0, 0, 0, 0, 0, 0, 0, 0, 0, 0, 0, 0, 0, 0, 0, 0, 0, 0, 0, 0, 0, 0, 0, 0, 0, 0, 0, 0, 0, 0, 0, 0, 0, 0, 0, 0, 0, 0, 0, 0, 0, 0, 0, 0, 0, 0, 0, 0, 0, 0, 0, 0, 0, 0, 0, 0, 0, 0, 0, 0, 0, 0, 0, 0, 0, 0, 0, 0, 0, 0, 0, 0, 0, 0, 0, 0, 0, 0, 0, 0, 0, 0, 0, 0, 0, 0, 0, 0, 0, 0, 0, 0, 0, 0, 0, 0, 0, 0, 0, 0, 0, 0, 0, 0, 0, 0, 0, 0, 0, 0, 0, 0, 0, 0, 0, 0, 0, 0, 0, 0, 0, 0, 0, 0, 0, 0, 0, 0, 0, 0, 0, 0, 0, 0, 0, 0, 0, 0, 0, 0, 0, 0, 0, 0, 0, 0, 0, 0, 0, 0, 0, 0, 0, 0, 0, 0, 0, 0, 0, 0, 0, 0, 0, 0, 0, 0, 0, 0, 0, 0, 0, 0, 0, 0, 0, 0, 0, 0, 0, 0, 0, 0, 0, 0, 0, 0, 0, 0, 0, 0, 0, 0, 0, 0, 0, 0, 0, 0, 0, 0, 0, 0, 0, 0, 0, 0, 0, 0, 0, 0, 0, 0, 0, 0, 0, 0, 0, 0] : List Int).map (Value.int .u8)).toArray t frozen
      | o => o).modify 5 fun
      | .cells _ t frozen => .cells (([1, 10, 100, 1000, 10000, 100000, 1000000, 10000000, 100000000, 1000000000, 10000000000, 100000000000, 1000000000000, 10000000000000, 100000000000000, 1000000000000000, 10000000000000000, 100000000000000000, 1000000000000000000, 10000000000000000000] : List Int).map (Value.int .u64)).toArray t frozen
      | o => o).modify 6 fun
      | .cells _ t frozen => .cells (([0, 1, 28, 2, 29, 14, 24, 3, 30, 22, 20, 15, 25, 17, 4, 8, 31, 27, 13, 23, 21, 19, 16, 7, 26, 12, 18, 6, 11, 5, 10, 9] : List Int).map (Value.int .u8)).toArray t frozen
      | o => o).modify 7 fun
      | .cells _ t frozen => .cells (([0, 1, 56, 2, 57, 49, 28, 3, 61, 58, 42, 50, 38, 29, 17, 4, 62, 47, 59, 36, 45, 43, 51, 22, 53, 39, 33, 30, 24, 18, 12, 5, 63, 55, 48, 27, 60, 41, 37, 16, 46, 35, 44, 21, 52, 32, 23, 11, 54, 26, 40, 15, 34, 20, 31, 10, 25, 14, 19, 9, 13, 8, 7, 6] : List Int).map (Value.int .u8)).toArray t frozen
      | o => o).modify 3 fun
      | .cells _ t frozen => .cells #[.iface 160 (.pointer (some ⟨low, 0, none⟩))] t frozen
      | o => o).modify 4 fun
      | .cells _ t frozen => .cells #[.iface 160 (.pointer (some ⟨low + 1, 0, none⟩))] t frozen
      | o => o).modify 2 fun
      | .cells _ t frozen => .cells #[.pointer (some ⟨low + 2, 0, none⟩)] t frozen
      | o => o) }
def laidL : List (String × DataW Unit) := [("math/bits.deBruijn32tab", Rows.laid_math_bits_deBruijn32tab), ("math/bits.deBruijn64tab", Rows.laid_math_bits_deBruijn64tab), ("internal/strconv.uint64pow10", Rows.laid_internal_strconv_uint64pow10), ("strconv.ErrRange", Rows.laid_strconv_ErrRange), ("strconv.ErrSyntax", Rows.laid_strconv_ErrSyntax), ("unicode.White_Space", Rows.laid_unicode_White_Space), ("strings.asciiSpace", Rows.laid_strings_asciiSpace)]
theorem laidWorld_met (os : Os) (args : Array Value) : laidMet Tryz.prog laidL ((laidWorld os).forCall (fun _ _ => 0) ⟨#[], args, []⟩).memory :=
  laidMet_of_run' 8 (by kernel_rfl) (by kernel_rfl)
theorem globIs {W : World} (h : laidMet Tryz.prog laidL W) : GlobL W where
  errSyntax := let ⟨u, v, hc⟩ := laid_iface (s := "*errors.errorString") (d := .ptr (.agg [.lit (.string [105, 110, 118, 97, 108, 105, 100, 32, 115, 121, 110, 116, 97, 120])])) h (by simp [laidL, Rows.laid_strconv_ErrSyntax]) gSyn (t := 80) (by kernel_rfl) Tryz.underlying80; ⟨3, u, v, gSyn, by decide, hc⟩
  errRange := let ⟨u, v, hc⟩ := laid_iface (s := "*errors.errorString") (d := .ptr (.agg [.lit (.string [118, 97, 108, 117, 101, 32, 111, 117, 116, 32, 111, 102, 32, 114, 97, 110, 103, 101])])) h (by simp [laidL, Rows.laid_strconv_ErrRange]) gRng (t := 80) (by kernel_rfl) Tryz.underlying80; ⟨4, u, v, gRng, by decide, hc⟩
  space := ⟨0, gSpc, by decide, laid_tab h (List.mem_cons_of_mem _ (List.mem_cons_of_mem _ (List.mem_cons_of_mem _ (List.mem_cons_of_mem _ (List.mem_cons_of_mem _ (List.mem_cons_of_mem _ (List.mem_cons.2 (.inl (by kernel_rfl))))))))) gSpc (t := 88) (by kernel_rfl) Tryz.underlying88 Tryz.underlying5 (by kernel_rfl) (by kernel_rfl)⟩
theorem laid_size {W : World} (h : laidMet Tryz.prog laidL W) : 8 ≤ W.heap.size := by
  obtain ⟨ps, hl, _⟩ := h
  obtain ⟨g, t, cs, fuel, p, e1, _, e3, _⟩ := laid_at (n := "math/bits.deBruijn64tab") hl (List.mem_cons_of_mem _ (List.mem_cons_self ..))
  have eg : Tryz.prog.globalNamed "math/bits.deBruijn64tab" = some 7 := by kernel_rfl
  obtain rfl := Option.some.inj (eg.symm.trans e1)
  unfold World.var? at e3
  rw [eg] at e3
  simp only [Option.bind_some] at e3
  by_cases h : 7 < W.heap.size
  · omega
  · rw [Array.getElem?_eq_none (by omega)] at e3; simp at e3
theorem globP {W : World} (h : laidMet Tryz.prog laidL W) (hs : W.ShapedOpen Tryz.prog) (k : Nat) : globA.p W noO k := ⟨laid_size h, fun _ _ => rfl, globIs h⟩
end Go.Proofs.YtgibkdldfnlglaaGreatDoor
