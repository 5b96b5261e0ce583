/-
  Texts that stand side by side: Ps, Pt, Pu, W4, P4, AbsEnd3, AbsEnd4, AbsEnd5, Opn, Opq.
-/
import Derived.Test.YtgjdaamkfpbgpaaM14
import Derived.Test.YtgjdaamkfpbgpaaM0
import Derived.Test.YtgjdaamkfpbgpaaM1
import Derived.ChangeArms
import Derived.Test.YtgjdaamkfpbgpaaRows
namespace Go.Proofs.Ytgjdaamkfpbgpaa
open Go.Abs
set_option linter.unusedVariables false
set_option linter.unusedSimpArgs false

def At (C : List S_api_Instr) (pos : Nat) (l : List S_api_Instr) : Prop := ∃ a b, C = a ++ l ++ b ∧ a.length = pos
theorem At.left {C : List S_api_Instr} {pos : Nat} {l r : List S_api_Instr} (h : At C pos (l ++ r)) : At C pos l := by
  obtain ⟨a, b, rfl, e⟩ := h; exact ⟨a, r ++ b, by simp, e⟩
theorem At.right {C : List S_api_Instr} {pos : Nat} {l r : List S_api_Instr} (h : At C pos (l ++ r)) : At C (pos + l.length) r := by
  obtain ⟨a, b, rfl, e⟩ := h; exact ⟨a ++ l, b, by simp, by simp [e]⟩
theorem At.get {C : List S_api_Instr} {pos : Nat} {x : S_api_Instr} {r : List S_api_Instr} (h : At C pos (x :: r)) : C[pos]? = some x := by
  obtain ⟨a, b, rfl, rfl⟩ := h; simp
theorem At.len {C : List S_api_Instr} {pos : Nat} {l : List S_api_Instr} (h : At C pos l) : pos + l.length ≤ C.length := by
  obtain ⟨a, b, rfl, rfl⟩ := h; simp
/-- the places from here to the end are not known yet, but for the end, perhaps -/
def Fh (M : MT) (pos len : Nat) (t : S_compile_types) : Prop := (∀ k : Nat, pos < k → k < pos + len → mget M (k : Int) = none) ∧ (0 < len → Fr M ((pos + len : Nat) : Int) t)
def Wk (n : Nat) (m : S_api_Module) (pos : Nat) (M : MT) (len : Nat) (t : S_compile_types) : Prop :=
  ∃ M', StC n m pos M (pos + len) M' ∧ mget M' ((pos + len : Nat) : Int) = some t ∧ ∀ k : Nat, (k ≤ pos ∨ pos + len < k) → mget M' (k : Int) = mget M (k : Int)
theorem Fh.left {M : MT} {pos a b : Nat} {t u : S_compile_types} (h : Fh M pos (a + b) t) (hb : 0 < b) : Fh M pos a u :=
  ⟨fun k h1 h2 => h.1 k h1 (by omega), fun ha => .inl (h.1 (pos + a) (by omega) (by omega))⟩
theorem Fh.right {M M' : MT} {pos a b : Nat} {t : S_compile_types} (h : Fh M pos (a + b) t) (hk : ∀ k : Nat, (k ≤ pos ∨ pos + a < k) → mget M' (k : Int) = mget M (k : Int)) : Fh M' (pos + a) b t :=
  ⟨fun k h1 h2 => by rw [hk k (.inr h1)]; exact h.1 k (by omega) (by omega), fun hb => by
    have := h.2 (by omega)
    unfold Fr at this ⊢
    rw [hk (pos + a + b) (.inr (by omega)), show pos + a + b = pos + (a + b) by omega]; exact this⟩
theorem Wk.seq {n : Nat} {m : S_api_Module} {pos a b : Nat} {M : MT} {t u : S_compile_types} (hF : Fh M pos (a + b) u) (h1 : Wk n m pos M a t) (h2 : ∀ M', mget M' ((pos + a : Nat) : Int) = some t → Fh M' (pos + a) b u → Wk n m (pos + a) M' b u) : Wk n m pos M (a + b) u := by
  obtain ⟨M1, s1, g1, k1⟩ := h1
  obtain ⟨M2, s2, g2, k2⟩ := h2 M1 g1 (hF.right k1)
  refine ⟨M2, ?_, by rw [← g2]; congr 2; omega, fun k hk => ?_⟩
  · rw [show pos + (a + b) = pos + a + b by omega]; exact s1.trans s2
  · rw [k2 k (by omega), k1 k (by omega)]
theorem Wk.nil {n : Nat} {m : S_api_Module} {pos : Nat} {M : MT} {t : S_compile_types} (h : mget M (pos : Int) = some t) : Wk n m pos M 0 t := ⟨M, StC.refl, h, fun k _ => rfl⟩
theorem Wk.one {n : Nat} {m : S_api_Module} (hn : 100000 ≤ n) (hl : m.Code.length < 90000) {pos : Nat} {M : MT} {x : S_api_Instr} {t u : S_compile_types} (hx : At m.Code pos [x]) (ht : mget M (pos : Int) = some t) (ha : weirgate_compile_types_after_32 n t x pos = some (u, true)) (hu : Sml u) (h37 : x.Op ≠ 37) (h38 : x.Op ≠ 38) (h40 : x.Op ≠ 40) (hF : Fh M pos 1 u) : Wk n m pos M 1 u := by
  obtain ⟨M', s, g⟩ := step_plain hn hl hx.get ht ha hu h37 h38 h40 (hF.2 (by omega))
  refine ⟨M', s, by rw [g, if_pos rfl], fun k hk => ?_⟩
  rw [g, if_neg (by omega)]
mutual
theorem walkE {n : Nat} {m : S_api_Module} (hn : 100000 ≤ n) (hl : m.Code.length < 90000) : ∀ (x : S_api_TExpr) (pos : Nat) (M : MT) (st vs L : List Int), rE x vs → At m.Code pos (cE x) → mget M (pos : Int) = some ⟨st, vs, L⟩ → Fh M pos (cE x).length ⟨st ++ [x.Type_], vs, L⟩ → st.length + x.nodes < 50000 → vs.length < 50000 → L.length < 50000 →
    Wk n m pos M (cE x).length ⟨st ++ [x.Type_], vs, L⟩
  | ⟨op, ty, nn, slot, s, l⟩, pos, M, st, vs, L, hr, hA, hM, hF, h1, h2, h3 => by
    simp only [S_api_TExpr.nodes] at h1
    simp only [rE] at hr
    simp only [cE] at hA hF ⊢
    obtain ⟨hty, hr⟩ := hr
    rcases hr with ⟨rfl, hlf⟩ | ⟨har, hel, k, hk, hv⟩
    · have hop := lf_le hlf
      simp only [cEL, List.nil_append, List.length_nil] at hA hF ⊢
      exact Wk.one hn hl hA hM (af_leaf hlf hty (by omega)) ⟨by simp; omega, by simp; omega, by simp; omega⟩ (by simp only; omega) (by simp only; omega) (by simp only; omega) hF
    · rw [List.length_append] at hF ⊢
      refine Wk.seq hF (walkEL hn hl l pos M st vs L hel hA.left hM (hF.left (by simp)) (by omega) h2 h3) fun M' hM' hF' => ?_
      have h8 := har.1
      have hlen := nodesL_len l
      have hAr := hA.right
      simp only [show ¬ op = 3 by omega, show ¬ op = 1 by omega, show ¬ (op = 2 ∨ op = 6) by omega, if_false] at hAr
      have haf := af_op (N := n) (op := op) (st := st) (vs := vs) (L := L) (a := ((pos + (cEL l).length : Nat) : Int)) (ts := l.map (·.Type_)) (k := k) (ty := ty) (by rw [List.length_map]; exact har) (fun y hy => by
        obtain ⟨z, hz, rfl⟩ := List.mem_map.1 hy
        exact hk z hz) hv hty (by rw [List.length_map]; omega) (by rw [List.length_map]; omega)
      rw [List.length_map] at haf
      have h23 := har.2.1
      exact Wk.one hn hl hAr hM' haf ⟨by simp; omega, by simp; omega, by simp; omega⟩ (by simp only; omega) (by simp only; omega) (by simp only; omega) hF'
theorem walkEL {n : Nat} {m : S_api_Module} (hn : 100000 ≤ n) (hl : m.Code.length < 90000) : ∀ (l : List S_api_TExpr) (pos : Nat) (M : MT) (st vs L : List Int), rEL l vs → At m.Code pos (cEL l) → mget M (pos : Int) = some ⟨st, vs, L⟩ → Fh M pos (cEL l).length ⟨st ++ l.map (·.Type_), vs, L⟩ → st.length + nodesL l < 50000 → vs.length < 50000 → L.length < 50000 →
    Wk n m pos M (cEL l).length ⟨st ++ l.map (·.Type_), vs, L⟩
  | [], pos, M, st, vs, L, hr, hA, hM, hF, h1, h2, h3 => by
    simp only [cEL, List.map_nil, List.append_nil, List.length_nil]
    exact Wk.nil hM
  | x :: r, pos, M, st, vs, L, hr, hA, hM, hF, h1, h2, h3 => by
    simp only [rEL] at hr
    simp only [nodesL] at h1
    have hx := nodes_eq x
    simp only [cEL] at hA hF ⊢
    have e : st ++ List.map (·.Type_) (x :: r) = (st ++ [x.Type_]) ++ r.map (·.Type_) := by simp
    rw [e] at hF ⊢
    by_cases h0 : r = []
    · subst h0
      simp only [cEL, List.append_nil, List.map_nil] at hA hF ⊢
      exact walkE hn hl x pos M st vs L hr.1 hA hM hF (by omega) h2 h3
    · have hrl : 0 < (cEL r).length := by
        rw [cEL_len]
        have := nodesL_len r
        have := List.length_pos_iff.2 h0
        omega
      rw [List.length_append] at hF ⊢
      exact Wk.seq hF (walkE hn hl x pos M st vs L hr.1 hA.left hM (hF.left hrl) (by omega) h2 h3) fun M' hM' hF' => walkEL hn hl r _ M' (st ++ [x.Type_]) vs L hr.2 hA.right hM' hF' (by simp; omega) h2 h3
end
end Go.Proofs.Ytgjdaamkfpbgpaa
namespace Go.Proofs.Ytgjdaamkfpbgpaa
open Go.Abs
set_option linter.unusedVariables false
set_option linter.unusedSimpArgs false

theorem varsA_take_len : ∀ (l : List S_api_TStmt) (vs : List Int), vs.length ≤ (varsA l vs).length ∧ (varsA l vs).take vs.length = vs
  | [], vs => by simp [varsA]
  | s :: r, vs => by
    have h := varsA_take_len r (nextV s vs)
    have e : varsA (s :: r) vs = varsA r (nextV s vs) := rfl
    rw [e]
    unfold nextV at h ⊢
    split at h
    · rename_i hk
      rw [if_pos hk]
      rw [List.length_append, List.length_cons, List.length_nil] at h
      refine ⟨by omega, ?_⟩
      have h2 := congrArg (List.take vs.length) h.2
      rw [List.take_take, List.take_left] at h2
      rwa [show min vs.length (vs.length + (0 + 1)) = vs.length by omega] at h2
    · rename_i hk
      rw [if_neg hk]; exact h
theorem last_ok {N : Nat} {s : S_api_TStmt} {vs L : List Int} {a : Int} (h : stF s.Kind s.Slot s.N s.Name s.X.Type_ vs) (h5 : s.Kind ≠ 5) (h6 : s.Kind ≠ 6) (hv : vs.length ≤ 200) : weirgate_compile_types_after_32 N ⟨[s.X.Type_], vs, L⟩ (lastI s) a = some (⟨[], nextV s vs, L⟩, true) ∧ 31 ≤ (lastI s).Op ∧ (lastI s).Op ≤ 36 := by
  obtain ⟨k1, k9, hnm, _, s1, s2, t4, _, t2⟩ := h
  unfold lastI nextV
  by_cases e1 : s.Kind = 1
  · rw [if_pos (.inl e1), if_pos e1, (s1 e1).1]
    exact ⟨af_31n (s1 e1).2, by simp, by simp⟩
  · by_cases e2 : s.Kind = 2
    · rw [if_pos (.inr e2), if_neg e1]
      exact ⟨af_31s (s2 e2).1 (s2 e2).2 hv, by simp, by simp⟩
    · rw [if_neg (by omega), if_neg e1]
      by_cases e3 : s.Kind = 3
      · rw [if_pos e3, t2 (.inl e3)]
        exact ⟨af_text (.inl ⟨rfl, hnm⟩), by simp, by simp⟩
      · rw [if_neg e3]
        by_cases e4 : s.Kind = 4
        · rw [if_pos e4, t4 e4]
          exact ⟨af_33, by simp, by simp⟩
        · rw [if_neg e4, t2 (by omega)]
          by_cases e7 : s.Kind = 7
          · rw [if_pos e7]; exact ⟨af_text (.inr ⟨.inl rfl, rfl⟩), by simp, by simp⟩
          · rw [if_neg e7]
            by_cases e8 : s.Kind = 8
            · rw [if_pos e8]; exact ⟨af_text (.inr ⟨.inr (.inl rfl), rfl⟩), by simp, by simp⟩
            · rw [if_neg e8]; exact ⟨af_text (.inr ⟨.inr (.inr rfl), rfl⟩), by simp, by simp⟩
theorem cS_pos (s : S_api_TStmt) (pos : Nat) (d : Int) : 0 < (cS s pos d).length := by
  cases s; simp only [cS]; split
  · simp
  · split <;> simp
theorem cB_pos : ∀ (l : List S_api_TStmt) (pos : Nat) (d : Int), l ≠ [] → 0 < (cB l pos d).length
  | s :: r, pos, d, _ => by have := cS_pos s pos d; simp only [cB, List.length_append]; omega
theorem walk_plain {n : Nat} {m : S_api_Module} (hn : 100000 ≤ n) (hl : m.Code.length < 90000) {s : S_api_TStmt} {pos : Nat} {M : MT} {vs L : List Int} (hr : rE s.X vs) (hst : stF s.Kind s.Slot s.N s.Name s.X.Type_ vs) (h5 : s.Kind ≠ 5) (h6 : s.Kind ≠ 6)
    (hA : At m.Code pos ([⟨30, 0, []⟩] ++ cE s.X ++ [lastI s])) (hM : mget M (pos : Int) = some ⟨[], vs, L⟩) (hF : Fh M pos (1 + (cE s.X).length + 1) ⟨[], nextV s vs, L⟩) (h1 : s.X.nodes < 40000) (h2 : vs.length ≤ 200) (h3 : L.length < 40000) :
    Wk n m pos M (1 + (cE s.X).length + 1) ⟨[], nextV s vs, L⟩ := by
  have hS : Sml ⟨[], vs, L⟩ := ⟨by simp, by simp; omega, by simp; omega⟩
  have hxl : 0 < (cE s.X).length := by rw [cE_len, nodes_eq]; omega
  obtain ⟨hla, ho1, ho2⟩ := last_ok (N := n) (L := L) (a := ((pos + (1 + (cE s.X).length) : Nat) : Int)) hst h5 h6 h2
  have hF1 : Fh M pos (1 + (cE s.X).length) ⟨[s.X.Type_], vs, L⟩ := hF.left (by omega)
  refine Wk.seq hF (t := ⟨[s.X.Type_], vs, L⟩) (Wk.seq hF1 (Wk.one hn hl hA.left.left hM af_30 hS (by simp) (by simp) (by simp) (hF1.left hxl)) fun M' hM' hF' => ?_) fun M' hM' hF' => ?_
  · exact walkE hn hl s.X (pos + 1) M' [] vs L hr hA.left.right hM' hF' (by simp; omega) (by omega) (by omega)
  · have hAr := hA.right
    rw [List.length_append] at hAr
    refine Wk.one hn hl hAr hM' hla ⟨by simp, ?_, by simp; omega⟩ (by omega) (by omega) (by omega) hF'
    unfold nextV; split <;> simp <;> omega
mutual
theorem walkS {n : Nat} {m : S_api_Module} (hn : 100000 ≤ n) (hl : m.Code.length < 90000) : ∀ (s : S_api_TStmt) (pos : Nat) (M : MT) (vs L : List Int), rS s vs → At m.Code pos (cS s pos vs.length) → mget M (pos : Int) = some ⟨[], vs, L⟩ → Fh M pos (cS s pos vs.length).length ⟨[], nextV s vs, L⟩ → vs.length ≤ 200 → L.length + s.nodes < 40000 →
    Wk n m pos M (cS s pos vs.length).length ⟨[], nextV s vs, L⟩
  | ⟨kind, slot, nn, name, x, b, e⟩, pos, M, vs, L, hr, hA, hM, hF, h2, h3 => by
    simp only [S_api_TStmt.nodes] at h3
    simp only [rS] at hr
    obtain ⟨hst, hre, hrb, hre2⟩ := hr
    have hS : Sml ⟨[], vs, L⟩ := ⟨by simp, by simp; omega, by simp; omega⟩
    by_cases h6 : kind = 6
    · rw [cS6 _ _ _ h6] at hA hF ⊢
      have hnx : nextV ⟨kind, slot, nn, name, x, b, e⟩ vs = vs := by unfold nextV; rw [if_neg (by simp only; omega)]
      rw [hnx] at hF ⊢
      simp only at hA hF ⊢
      generalize hk : cB b (pos + 3) vs.length = k at hA hF ⊢
      have hlen : ([(S_api_Instr.mk 30 0 []), (S_api_Instr.mk 39 nn []), (S_api_Instr.mk 40 ((pos + 5 + k.length : Nat)) [])] ++ k ++ [(S_api_Instr.mk 41 (vs.length : Int) []), (S_api_Instr.mk 37 ((pos + 2 : Nat)) [])]).length = 5 + k.length := by simp; omega
      have hCl := hA.len
      rw [hlen] at hF hCl ⊢
      have hA0 : At m.Code pos ([(S_api_Instr.mk 30 0 [])] ++ ([(S_api_Instr.mk 39 nn [])] ++ ([(S_api_Instr.mk 40 ((pos + 5 + k.length : Nat)) [])] ++ (k ++ ([(S_api_Instr.mk 41 (vs.length : Int) [])] ++ [(S_api_Instr.mk 37 ((pos + 2 : Nat)) [])]))))) := by simpa using hA
      have hA1 := hA0.right
      have hA2 := hA1.right
      have hA3 := hA2.right
      have hA4 := hA3.right
      have hA5 := hA4.right
      simp only [List.length_cons, List.length_nil, Nat.zero_add] at hA1 hA2 hA3 hA4 hA5
      obtain ⟨M1, s1, g1, k1⟩ := Wk.one hn hl hA0.left hM af_30 hS (by simp) (by simp) (by simp) ⟨fun k h1 h2 => by omega, fun _ => .inl (hF.1 (pos + 1) (by omega) (by omega))⟩
      have hS2 : Sml ⟨[], vs, L ++ [((pos + 1 : Nat) : Int)]⟩ := ⟨by simp, by simp; omega, by simp; omega⟩
      obtain ⟨M2, s2, g2, k2⟩ := Wk.one (pos := pos + 1) hn hl hA1.left g1 (af_39 (hst.2.2.2.1 h6) (by omega)) hS2 (by simp) (by simp) (by simp) ⟨fun k h1 h2 => by omega, fun _ => .inl (by rw [k1 _ (.inr (by omega))]; exact hF.1 (pos + 1 + 1) (by omega) (by omega))⟩
      obtain ⟨M3, s3, g3⟩ := step_turn (i := pos + 1 + 1) (A := pos + 5 + k.length) hn hl hA2.left.get g2 hS2 (by omega) (by omega)
        (by unfold Fr; rw [k2 _ (.inr (by omega)), k1 _ (.inr (by omega)), show pos + 5 + k.length = pos + (5 + k.length) by omega]; exact hF.2 (by omega))
        (.inl (by rw [k2 _ (.inr (by omega)), k1 _ (.inr (by omega))]; exact hF.1 _ (by omega) (by omega)))
      have hno : ∀ q : Nat, pos + 3 < q → q < pos + 5 + k.length → mget M3 (q : Int) = none := fun q q1 q2 => by
        rw [g3, if_neg (by omega), if_neg (by omega), k2 _ (.inr (by omega)), k1 _ (.inr (by omega))]; exact hF.1 _ (by omega) (by omega)
      obtain ⟨M4, s4, g4, k4⟩ : Wk n m (pos + 3) M3 k.length ⟨[], varsA b vs, L ++ [((pos + 1 : Nat) : Int)]⟩ := by
        rw [← hk]
        exact walkB hn hl b (pos + 3) M3 vs (L ++ [((pos + 1 : Nat) : Int)]) hrb (by rw [hk]; exact hA3.left) (by rw [g3, if_pos (by omega)]) (by rw [hk]; exact ⟨fun q q1 q2 => hno q q1 (by omega), fun hq => .inl (hno _ (by omega) (by omega))⟩) h2 (by simp; omega)
      obtain ⟨v1, v2⟩ := varsA_take_len b vs
      have haf := af_41 (N := n) (st := []) (vs := varsA b vs) (L := L ++ [((pos + 1 : Nat) : Int)]) (a := ((pos + 3 + k.length : Nat) : Int)) (A := (vs.length : Int)) ⟨by omega, by omega⟩
      rw [Int.toNat_natCast, v2] at haf
      obtain ⟨M5, s5, g5, k5⟩ := Wk.one (pos := pos + 3 + k.length) hn hl hA4.left g4 haf hS2 (by simp) (by simp) (by simp) ⟨fun k h1 h2 => by omega, fun _ => .inl (by rw [k4 _ (.inr (by omega))]; exact hno _ (by omega) (by omega))⟩
      obtain ⟨M6, s6, g6⟩ := step_jump (s := []) (i := pos + 3 + k.length + 1) (A := pos + 2) hn hl hA5.get g5 hS2 (by omega) (fun _ => ⟨_, hA2.left.get, rfl⟩)
        (.inr (by rw [k5 _ (.inl (by omega)), k4 _ (.inl (by omega)), g3, if_neg (by omega), if_neg (by omega)]; exact g2))
      refine ⟨M6, ?_, ?_, fun q hq => ?_⟩
      · have := ((((s1.trans s2).trans s3).trans s4).trans s5).trans s6
        rwa [show pos + 3 + k.length + 1 + 1 = pos + (5 + k.length) by omega] at this
      · rw [g6, if_neg (by omega), k5 _ (.inr (by omega)), k4 _ (.inr (by omega)), g3, if_neg (by omega), if_pos (by omega)]
      · rw [g6, if_neg (by omega), k5 _ (by omega), k4 _ (by omega), g3, if_neg (by omega), if_neg (by omega), k2 _ (by omega), k1 _ (by omega)]
    · by_cases h5 : kind = 5
      · rw [cS5 ⟨kind, slot, nn, name, x, b, e⟩ pos vs.length h5 rfl rfl rfl] at hA hF ⊢
        have hnx : nextV ⟨kind, slot, nn, name, x, b, e⟩ vs = vs := by unfold nextV; rw [if_neg (by simp only; omega)]
        rw [hnx] at hF ⊢
        simp only at hA hF ⊢
        have ht3 : x.Type_ = 3 := hst.2.2.2.2.2.2.2.1 h5
        have hql : 0 < (cE x).length := by rw [cE_len, nodes_eq]; omega
        generalize hq : cE x = q at hA hF hql ⊢
        generalize hk : cB b (pos + 2 + q.length) vs.length = k at hA hF ⊢
        generalize hj : cB e (pos + 4 + q.length + k.length) vs.length = j at hA hF ⊢
        have hlen : ([(S_api_Instr.mk 30 0 [])] ++ q ++ [(S_api_Instr.mk 38 ((pos + 4 + q.length + k.length : Nat)) [])] ++ k ++ [(S_api_Instr.mk 41 (vs.length : Int) []), (S_api_Instr.mk 37 ((pos + 5 + q.length + k.length + j.length : Nat)) [])] ++ j ++ [(S_api_Instr.mk 41 (vs.length : Int) [])]).length = 5 + q.length + k.length + j.length := by simp; omega
        have hCl := hA.len
        rw [hlen] at hF hCl ⊢
        have hA0 : At m.Code pos ([(S_api_Instr.mk 30 0 [])] ++ (q ++ ([(S_api_Instr.mk 38 ((pos + 4 + q.length + k.length : Nat)) [])] ++ (k ++ ([(S_api_Instr.mk 41 (vs.length : Int) [])] ++ ([(S_api_Instr.mk 37 ((pos + 5 + q.length + k.length + j.length : Nat)) [])] ++ (j ++ [(S_api_Instr.mk 41 (vs.length : Int) [])]))))))) := by simpa using hA
        have hA1 := hA0.right
        have hA2 := hA1.right
        have hA3 := hA2.right
        have hA4 := hA3.right
        have hA5 := hA4.right
        have hA6 := hA5.right
        have hA7 := hA6.right
        simp only [List.length_cons, List.length_nil, Nat.zero_add] at hA1 hA2 hA3 hA4 hA5 hA6 hA7
        obtain ⟨M1, s1, g1, k1⟩ := Wk.one hn hl hA0.left hM af_30 hS (by simp) (by simp) (by simp) ⟨fun k h1 h2 => by omega, fun _ => .inl (hF.1 (pos + 1) (by omega) (by omega))⟩
        have hno1 : ∀ z : Nat, pos + 1 < z → z < pos + (5 + q.length + k.length + j.length) → mget M1 (z : Int) = none := fun z z1 z2 => by rw [k1 _ (.inr z1)]; exact hF.1 _ (by omega) z2
        obtain ⟨M2, s2, g2, k2⟩ : Wk n m (pos + 1) M1 q.length ⟨[3], vs, L⟩ := by
          have := walkE hn hl x (pos + 1) M1 [] vs L (hre h6) (by rw [hq]; exact hA1.left) g1 (by rw [hq]; exact ⟨fun z z1 z2 => hno1 z z1 (by omega), fun _ => .inl (hno1 _ (by omega) (by omega))⟩) (by simp; omega) (by omega) (by omega)
          rw [hq, ht3] at this; exact this
        have hno2 : ∀ z : Nat, pos + 1 + q.length < z → z < pos + (5 + q.length + k.length + j.length) → mget M2 (z : Int) = none := fun z z1 z2 => by rw [k2 _ (.inr z1)]; exact hno1 z (by omega) z2
        obtain ⟨M3, s3, g3⟩ := step_unless (i := pos + 1 + q.length) (A := pos + 4 + q.length + k.length) hn hl hA2.left.get g2 hS (by omega) (by omega) (.inl (hno2 _ (by omega) (by omega))) (.inl (hno2 _ (by omega) (by omega)))
        rw [show pos + 1 + q.length + 1 = pos + 2 + q.length by omega] at s3 g3 hA3 hA4 hA5 hA6 hA7
        obtain ⟨M4, s4, g4, k4⟩ : Wk n m (pos + 2 + q.length) M3 k.length ⟨[], varsA b vs, L⟩ := by
          rw [← hk]
          exact walkB hn hl b (pos + 2 + q.length) M3 vs L hrb (by rw [hk]; exact hA3.left) (by rw [g3, if_pos (.inl rfl)]) (by rw [hk]; exact ⟨fun z z1 z2 => by rw [g3, if_neg (by omega)]; exact hno2 z (by omega) (by omega), fun hz => .inl (by rw [g3, if_neg (by omega)]; exact hno2 _ (by omega) (by omega))⟩) h2 (by omega)
        obtain ⟨v1, v2⟩ := varsA_take_len b vs
        have haf := af_41 (N := n) (st := []) (vs := varsA b vs) (L := L) (a := ((pos + 2 + q.length + k.length : Nat) : Int)) (A := (vs.length : Int)) ⟨by omega, by omega⟩
        rw [Int.toNat_natCast, v2] at haf
        obtain ⟨M5, s5, g5, k5⟩ := Wk.one (pos := pos + 2 + q.length + k.length) hn hl hA4.left g4 haf hS (by simp) (by simp) (by simp) ⟨fun k h1 h2 => by omega, fun _ => .inl (by rw [k4 _ (.inr (by omega)), g3, if_neg (by omega)]; exact hno2 _ (by omega) (by omega))⟩
        obtain ⟨M6, s6, g6⟩ := step_jump (s := []) (i := pos + 2 + q.length + k.length + 1) (A := pos + 5 + q.length + k.length + j.length) hn hl hA5.left.get g5 hS (by omega) (fun h => absurd h (by omega))
          (by unfold Fr; rw [k5 _ (.inr (by omega)), k4 _ (.inr (by omega)), g3, if_neg (by omega), k2 _ (.inr (by omega)), k1 _ (.inr (by omega)), show pos + 5 + q.length + k.length + j.length = pos + (5 + q.length + k.length + j.length) by omega]; exact hF.2 (by omega))
        rw [show pos + 2 + q.length + k.length + 1 + 1 = pos + 4 + q.length + k.length by omega] at s6 hA6 hA7
        obtain ⟨M7, s7, g7, k7⟩ : Wk n m (pos + 4 + q.length + k.length) M6 j.length ⟨[], varsA e vs, L⟩ := by
          rw [← hj]
          exact walkB hn hl e (pos + 4 + q.length + k.length) M6 vs L hre2 (by rw [hj]; exact hA6.left) (by rw [g6, if_neg (by omega), k5 _ (.inr (by omega)), k4 _ (.inr (by omega)), g3, if_pos (.inr rfl)])
            (by rw [hj]; exact ⟨fun z z1 z2 => by rw [g6, if_neg (by omega), k5 _ (.inr (by omega)), k4 _ (.inr (by omega)), g3, if_neg (by omega)]; exact hno2 z (by omega) (by omega), fun hz => .inl (by rw [g6, if_neg (by omega), k5 _ (.inr (by omega)), k4 _ (.inr (by omega)), g3, if_neg (by omega)]; exact hno2 _ (by omega) (by omega))⟩) h2 (by omega)
        obtain ⟨w1, w2⟩ := varsA_take_len e vs
        have haf2 := af_41 (N := n) (st := []) (vs := varsA e vs) (L := L) (a := ((pos + 4 + q.length + k.length + j.length : Nat) : Int)) (A := (vs.length : Int)) ⟨by omega, by omega⟩
        rw [Int.toNat_natCast, w2] at haf2
        obtain ⟨M8, s8, g8, k8⟩ := Wk.one (pos := pos + 4 + q.length + k.length + j.length) hn hl hA7 g7 haf2 hS (by simp) (by simp) (by simp) ⟨fun k h1 h2 => by omega, fun _ => .inr (by rw [k7 _ (.inr (by omega)), g6, if_pos (by omega)])⟩
        refine ⟨M8, ?_, ?_, fun z hz => ?_⟩
        · have := ((((((s1.trans s2).trans s3).trans s4).trans s5).trans s6).trans s7).trans s8
          rwa [show pos + 4 + q.length + k.length + j.length + 1 = pos + (5 + q.length + k.length + j.length) by omega] at this
        · rw [show pos + (5 + q.length + k.length + j.length) = pos + 4 + q.length + k.length + j.length + 1 by omega]; exact g8
        · rw [k8 _ (by omega), k7 _ (by omega), g6, if_neg (by omega), k5 _ (by omega), k4 _ (by omega), g3, if_neg (by omega), k2 _ (by omega), k1 _ (by omega)]
      · rw [cSo _ _ _ h5 h6] at hA hF ⊢
        rw [List.length_append, List.length_append, List.length_cons, List.length_nil, List.length_cons, List.length_nil, Nat.zero_add] at hF ⊢
        exact walk_plain (s := ⟨kind, slot, nn, name, x, b, e⟩) hn hl (hre h6) hst h5 h6 hA hM hF (by simp only; omega) h2 (by omega)
theorem walkB {n : Nat} {m : S_api_Module} (hn : 100000 ≤ n) (hl : m.Code.length < 90000) : ∀ (l : List S_api_TStmt) (pos : Nat) (M : MT) (vs L : List Int), rB l vs → At m.Code pos (cB l pos vs.length) → mget M (pos : Int) = some ⟨[], vs, L⟩ → Fh M pos (cB l pos vs.length).length ⟨[], varsA l vs, L⟩ → vs.length ≤ 200 → L.length + nodesB l < 40000 →
    Wk n m pos M (cB l pos vs.length).length ⟨[], varsA l vs, L⟩
  | [], pos, M, vs, L, hr, hA, hM, hF, h2, h3 => by
    simp only [cB, List.length_nil]
    exact Wk.nil hM
  | s :: r, pos, M, vs, L, hr, hA, hM, hF, h2, h3 => by
    simp only [rB] at hr
    simp only [nodesB] at h3
    have hs := nodesS_eq s
    have e : varsA (s :: r) vs = varsA r (nextV s vs) := rfl
    have hd : (if s.Kind = 1 then (vs.length : Int) + 1 else vs.length) = ((nextV s vs).length : Int) := by unfold nextV; split <;> simp
    have hv : (nextV s vs).length ≤ 200 := by
      unfold nextV; split
      · rename_i h1
        have := (((rS_eq s vs).1 hr.1).1.2.2.2.2.1 h1).2
        simp; omega
      · exact h2
    rw [e] at hF ⊢
    simp only [cB, hd] at hA hF ⊢
    by_cases h0 : r = []
    · subst h0
      simp only [cB, List.append_nil, varsA, List.foldl_nil] at hA hF ⊢
      exact walkS hn hl s pos M vs L hr.1 hA hM hF h2 (by omega)
    · have hrl : 0 < (cB r (pos + (cS s pos vs.length).length) (nextV s vs).length).length := cB_pos r _ _ h0
      rw [List.length_append] at hF ⊢
      exact Wk.seq hF (walkS hn hl s pos M vs L hr.1 hA.left hM (hF.left hrl) h2 (by omega)) fun M' hM' hF' => walkB hn hl r _ M' (nextV s vs) L hr.2 hA.right hM' hF' hv (by omega)
end
end Go.Proofs.Ytgjdaamkfpbgpaa
namespace Go.Proofs.Ytgjdaamkfpbgpaa
open Go.Abs
set_option linter.unusedVariables false
set_option linter.unusedSimpArgs false

def Rg (y : S_api_Instr) : Prop := R64 y.Op ∧ R64 y.A ∧ y.S.length ≤ 200
theorem rg_nat {op : Int} {a : Nat} {s : List UInt8} (h : 0 ≤ op ∧ op ≤ 100) (ha : a < 100000000) (hs : s.length ≤ 200) : Rg ⟨op, (a : Int), s⟩ := ⟨⟨by simp only; omega, by simp only; omega⟩, ⟨by simp only; omega, by simp only; omega⟩, hs⟩
mutual
theorem rgE : ∀ (x : S_api_TExpr) (vs : List Int), rE x vs → x.nodes < 1000000 → vs.length < 1000000 → ∀ y ∈ cE x, Rg y
  | ⟨op, ty, n, slot, s, l⟩, vs, hr, h1, h2, y, hy => by
    simp only [S_api_TExpr.nodes] at h1
    simp only [rE] at hr
    simp only [cE, List.mem_append, List.mem_cons, List.not_mem_nil, or_false] at hy
    obtain ⟨_, ⟨rfl, hlf⟩ | ⟨har, hel, _⟩⟩ := hr
    · rcases hy with hy | rfl
      · simp [cEL] at hy
      · rcases hlf with ⟨rfl, h0, h1, rfl⟩ | ⟨rfl | rfl, h1, rfl⟩ | ⟨rfl | rfl, rfl⟩ | ⟨rfl, rfl⟩ | ⟨rfl, h0, h1⟩
        · simp [Rg, R64]; omega
        · simpa [Rg, R64] using h1
        · simpa [Rg, R64] using h1
        · simp [Rg, R64]
        · simp [Rg, R64]
        · simp [Rg, R64]
        · obtain ⟨h2, h3⟩ := List.getElem?_eq_some_iff.1 h1
          simp [Rg, R64]; omega
    · rcases hy with hy | rfl
      · exact rgEL l vs hel (by omega) h2 y hy
      · have hl := nodesL_len l
        have h8 := har.1
        have h23 := har.2.1
        simp only [show ¬ op = 3 by omega, show ¬ op = 1 by omega, show ¬ (op = 2 ∨ op = 6) by omega, if_false]
        refine ⟨⟨by simp only; omega, by simp only; omega⟩, ?_, by simp⟩
        simp only [R64]
        split <;> omega
theorem rgEL : ∀ (l : List S_api_TExpr) (vs : List Int), rEL l vs → nodesL l < 1000000 → vs.length < 1000000 → ∀ y ∈ cEL l, Rg y
  | [], vs, hr, h1, h2, y, hy => by simp [cEL] at hy
  | x :: r, vs, hr, h1, h2, y, hy => by
    simp only [nodesL] at h1
    simp only [rEL] at hr
    simp only [cEL, List.mem_append] at hy
    rcases hy with hy | hy
    · exact rgE x vs hr.1 (by omega) h2 y hy
    · exact rgEL r vs hr.2 (by omega) h2 y hy
end
theorem rg_last {s : S_api_TStmt} {vs : List Int} (h : stF s.Kind s.Slot s.N s.Name s.X.Type_ vs) (hv : vs.length < 1000000) : Rg (lastI s) := by
  obtain ⟨k1, k9, hnm, _, s1, s2, _⟩ := h
  unfold lastI
  split
  · rename_i h12
    refine ⟨⟨by simp, by simp⟩, ?_, by simp⟩
    rcases h12 with h | h
    · have := (s1 h).1; simp only [R64]; omega
    · obtain ⟨h3, h4⟩ := s2 h
      obtain ⟨h5, _⟩ := List.getElem?_eq_some_iff.1 h4
      simp only [R64]; omega
  · repeat' split
    all_goals simp [Rg, R64]
    exact hnm
mutual
theorem rgS : ∀ (s : S_api_TStmt) (pos : Nat) (vs : List Int), rS s vs → s.nodes < 1000000 → pos + 7 * s.nodes < 10000000 → vs.length + s.nodes < 1000000 → ∀ y ∈ cS s pos vs.length, Rg y
  | ⟨kind, slot, n, name, x, b, e⟩, pos, vs, hr, h1, h2, h3, y, hy => by
    simp only [S_api_TStmt.nodes] at h1 h2 h3
    simp only [rS] at hr
    obtain ⟨hst, hre, hrb, hre2⟩ := hr
    have hd : Rg ⟨41, (vs.length : Int), []⟩ := rg_nat (by omega) (by omega) (by simp)
    have h30 : Rg ⟨30, 0, []⟩ := by simp [Rg, R64]
    have hxl := cE_len x
    by_cases h6 : kind = 6
    · rw [cS6 _ _ _ h6] at hy
      simp only [List.mem_append, List.mem_cons, List.not_mem_nil, or_false] at hy
      have hkl := cB_len b (pos + 3) vs.length
      rcases hy with ((rfl | rfl | rfl) | hy) | rfl | rfl
      · exact h30
      · have := hst.2.2.2.1 h6
        exact ⟨by simp [R64], ⟨by simp only; omega, by simp only; omega⟩, by simp⟩
      · exact rg_nat (by omega) (by omega) (by simp)
      · exact rgB b (pos + 3) vs hrb (by omega) (by omega) (by omega) y hy
      · exact hd
      · exact rg_nat (by omega) (by omega) (by simp)
    · by_cases h5 : kind = 5
      · rw [cS5 ⟨kind, slot, n, name, x, b, e⟩ pos vs.length h5 rfl rfl rfl] at hy
        simp only [List.mem_append, List.mem_cons, List.not_mem_nil, or_false] at hy
        have hkl := cB_len b (pos + 2 + (cE x).length) vs.length
        have hjl := cB_len e (pos + 4 + (cE x).length + (cB b (pos + 2 + (cE x).length) vs.length).length) vs.length
        rcases hy with (((((rfl | hy) | rfl) | hy) | rfl | rfl) | hy) | rfl
        · exact h30
        · exact rgE x vs (hre h6) (by omega) (by omega) y hy
        · exact rg_nat (by omega) (by omega) (by simp)
        · exact rgB b _ vs hrb (by omega) (by omega) (by omega) y hy
        · exact hd
        · exact rg_nat (by omega) (by omega) (by simp)
        · exact rgB e _ vs hre2 (by omega) (by omega) (by omega) y hy
        · exact hd
      · rw [cSo _ _ _ h5 h6] at hy
        simp only [List.mem_append, List.mem_cons, List.not_mem_nil, or_false] at hy
        rcases hy with (rfl | hy) | rfl
        · exact h30
        · exact rgE x vs (hre h6) (by omega) (by omega) y hy
        · exact rg_last (s := ⟨kind, slot, n, name, x, b, e⟩) hst (by omega)
theorem rgB : ∀ (l : List S_api_TStmt) (pos : Nat) (vs : List Int), rB l vs → nodesB l < 1000000 → pos + 7 * nodesB l < 10000000 → vs.length + nodesB l < 1000000 → ∀ y ∈ cB l pos vs.length, Rg y
  | [], pos, vs, hr, h1, h2, h3, y, hy => by simp [cB] at hy
  | s :: r, pos, vs, hr, h1, h2, h3, y, hy => by
    simp only [rB] at hr
    simp only [nodesB] at h1 h2 h3
    have hd : (if s.Kind = 1 then (vs.length : Int) + 1 else vs.length) = ((nextV s vs).length : Int) := by unfold nextV; split <;> simp
    have hsn := nodesS_eq s
    have hv : (nextV s vs).length ≤ vs.length + 1 := by unfold nextV; split <;> simp
    simp only [cB, hd, List.mem_append] at hy
    have hsl := cS_len s pos vs.length
    rcases hy with hy | hy
    · exact rgS s pos vs hr.1 (by omega) (by omega) (by omega) y hy
    · exact rgB r _ (nextV s vs) hr.2 (by omega) (by omega) (by omega) y hy
end
end Go.Proofs.Ytgjdaamkfpbgpaa
namespace Go.Proofs.Ytgjdaamkfpbgpaa
open Go.Abs
set_option linter.unusedVariables false
set_option linter.unusedSimpArgs false
set_option maxRecDepth 20000
set_option maxHeartbeats 4000000

def law28_CompileIsChecked (n : Nat) (p_0 : S_api_Program) : Option (Bool) :=
 obind (ref20_Size n p_0.Code 200) fun r2 =>
 bindJ (S := Bool)
  (cond (decide (200 < r2) || decide (200 < (p_0.Name.length : Int)))
   (some (.go true))
   (obind (ref20_Right n p_0) fun r13 =>
   some (.go (!r13))))
 (fun b7 =>
  cond b7
   (obind (law28_sanity n) fun r16 =>
   some r16)
   (obind (compile_Compile n p_0) fun r18 =>
   obind (compile_Encode n r18.1) fun r25 =>
   obind (compile_Decode n r25) fun r28 =>
   obind (law28_sanity n) fun r35 =>
   bindJ (S := Bool)
    (cond (r35 && decide (r18.2 = 0))
     (obind (compile_Check n r18.1) fun r46 =>
     some (.go (decide (r46 = 0))))
     (some (.go false)))
   (fun b40 =>
    bindJ (S := Bool)
     (cond (((b40 && decide (r18.1.Name = p_0.Name)) && decide ((r18.1.Effects.length : Int) = (p_0.Effects.length : Int))) && decide (r28.2 = 0))
      (obind (ref28_Same_v1 n r28.1 r18.1) fun r63 =>
      some (.go r63))
      (some (.go false)))
    (fun b57 =>
     some b57))))
theorem law28_CompileIsChecked_ok (n : Nat) (p_0 : S_api_Program) (p_0_Effectsv : Value) (p_0_Codev : Value) {r : Bool} (h : law28_CompileIsChecked n p_0 = some r) :
  Meets Try.prog 4 [.agg #[.string (bs p_0.Name), p_0_Effectsv, p_0_Codev]] [ro p_0_Effectsv 1 (p_0.Effects.map (eInt .i64)), nro p_0_Codev NC_api_TStmt_50 p_0.Code] (fun v G => v = .bool r ∧ G = []) := by
 refine fn_of_run Try.func4 rfl Try.ntmps4 rfl (fun w0 o0 => ?_)
 refine run_seq ?_
 refine run_region' ?_
 refine ot rfl rfl (t_box rfl) ?_
 rintro _ _ ⟨b1, rfl, rfl⟩
 refine oy rfl rfl (y_assign rfl) ?_
 refine ops_nil ?_
 refine goes_code ?_
 refine run_seq ?_
 refine run_seq ?_
 refine run_region' ?_
 refine oy rfl rfl (y_fieldAddr_box (sz := 0) Try.runUnderlying25 rfl Try.sizeOf23 rfl) ?_
 refine oy rfl rfl (y_load_box 2 Try.isAgg23 rfl rfl rfl) ?_
 obtain ⟨r2, hr3, h⟩ := obind_some h
 refine ot rfl rfl (t_callx (vs := [p_0_Codev, .int .i64 200]) (cs := []) [(1, 0)] rfl Try.call6 rfl (ref20_Size_ok n  p_0.Code 200 p_0_Codev hr3) (showsX_view 1 rfl views_nro showsX_nil) rfl (.inl rfl)) ?_
 rintro _ _ ⟨_, ⟨rfl, rfl⟩, rfl⟩
 refine oy rfl rfl (y_gtr rfl rfl) ?_
 refine oy rfl rfl (y_move rfl) ?_
 refine ops_cut 5 (Bool) (fun σ => [(1, boxP b1 0), (16, .bool σ)]) (fun σ => [ro p_0_Effectsv 1 (p_0.Effects.map (eInt .i64)), nro p_0_Codev NC_api_TStmt_50 p_0.Code, box b1 [.string (bs p_0.Name), p_0_Effectsv, p_0_Codev]]) (fun σ => σ = (decide (200 < r2) || decide (200 < (p_0.Name.length : Int)))) (fun L4 hL5 => ?_) ?_
 ·refine ops_split 11 (decide (200 < r2)) rfl (fun hg6 => ?_) (fun hg6 => ?_)
  ·skip
   refine ops_no 4 false 11 rfl rfl rfl rfl rfl ?_
   refine ops_no 4 false 11 rfl rfl rfl rfl rfl ?_
   refine ops_no 4 false 11 rfl rfl rfl rfl rfl ?_
   refine ops_no 4 false 11 rfl rfl rfl rfl rfl ?_
   refine oy rfl rfl (y_pick (b := true) rfl rfl) ?_
   refine ops_nil ?_
   exact goes_cut hL5 true [0, 1, 2] (qv2 rfl rfl) (by decide) rfl (by rw [hg6]; simp)
  ·skip
   refine ops_y (wg 4 false 11 rfl rfl rfl rfl) rfl (y_fieldAddr_box (sz := 0) Try.runUnderlying25 rfl Try.sizeOf9 rfl) ?_
   refine ops_y (wg 4 false 11 rfl rfl rfl rfl) rfl (y_load_box 2 Try.isAgg9 rfl rfl rfl) ?_
   refine ops_y (wg 4 false 11 rfl rfl rfl rfl) rfl (y_len_str rfl Try.runUnderlying9 rfl) ?_
   refine ops_y (wg 4 false 11 rfl rfl rfl rfl) rfl (y_gtr rfl rfl) ?_
   refine oy rfl rfl (y_pick (b := false) rfl rfl) ?_
   refine ops_nil ?_
   exact goes_cut hL5 (decide (200 < (p_0.Name.length : Int))) [0, 1, 2] (qv2 rfl rfl) (by decide) rfl (by rw [hg6]; simp)
 rintro _ rfl
 refine oy rfl rfl (y_move rfl) ?_
 obtain ⟨o8, h, ho9⟩ := bindJ_some h
 refine ops_cut 4 (Bool) (fun σ => [(1, boxP b1 0), (21, .bool σ)]) (fun σ => [ro p_0_Effectsv 1 (p_0.Effects.map (eInt .i64)), nro p_0_Codev NC_api_TStmt_50 p_0.Code, box b1 [.string (bs p_0.Name), p_0_Effectsv, p_0_Codev]]) (fun σ => o8 = .go σ) (fun L10 hL11 => ?_) ?_
 ·refine ops_split 17 (decide (200 < r2) || decide (200 < (p_0.Name.length : Int))) rfl (fun hg12 => ?_) (fun hg12 => ?_)
  ·replace h := cond_t h hg12
   refine ops_no 10 false 17 rfl rfl rfl rfl rfl ?_
   refine ops_no 10 false 17 rfl rfl rfl rfl rfl ?_
   refine ops_no 10 false 17 rfl rfl rfl rfl rfl ?_
   refine oy rfl rfl (y_pick (b := true) rfl rfl) ?_
   refine ops_nil ?_
   obtain rfl := some_eq h
   exact goes_cut hL11 true [0, 1, 2] (qv2 rfl rfl) (by decide) rfl rfl
  ·replace h := cond_f h hg12
   refine ops_y (wg 10 false 17 rfl rfl rfl rfl) rfl (y_load_boxagg (c := [.string (bs p_0.Name), p_0_Effectsv, p_0_Codev]) 2 Try.isAgg25 Try.sizeOf25 rfl rfl rfl) ?_
   obtain ⟨r13, hr14, h⟩ := obind_some h
   refine ops_t (wg 10 false 17 rfl rfl rfl rfl) rfl (t_callx (vs := [.agg #[.string (bs p_0.Name), p_0_Effectsv, p_0_Codev]]) (cs := []) [(0, 0), (1, 0)] rfl Try.call7 rfl (ref20_Right_ok n  p_0 p_0_Effectsv p_0_Codev hr14) (showsX_view 0 rfl views_ro (showsX_view 1 rfl views_nro showsX_nil)) rfl (.inl rfl)) ?_
   rintro _ _ ⟨_, ⟨rfl, rfl⟩, rfl⟩
   refine ops_y (wg 10 false 17 rfl rfl rfl rfl) rfl (y_not rfl) ?_
   refine oy rfl rfl (y_pick (b := false) rfl rfl) ?_
   refine ops_nil ?_
   obtain rfl := some_eq h
   exact goes_cut hL11 (!r13) [0, 1, 2] (qv2 rfl rfl) (by decide) rfl rfl
 rintro b7 hj
 obtain rfl : o8 = _ := hj
 replace h := after_go ho9
 clear ho9
 refine ops_nil ?_
 refine goes_code ?_
 refine run_cond b7 rfl (fun hc15 => ?_) (fun hc15 => ?_)
 ·replace h := cond_t h hc15
  refine run_seq ?_
  refine run_region' ?_
  obtain ⟨r16, hr17, h⟩ := obind_some h
  refine ot rfl rfl (t_callx (vs := []) (cs := []) [] rfl Try.call8 rfl (law28_sanity_ok n    hr17) showsX_nil rfl (.inl rfl)) ?_
  rintro _ _ ⟨_, ⟨rfl, rfl⟩, rfl⟩
  refine oy rfl rfl (y_assign rfl) ?_
  refine ops_nil ?_
  refine goes_code ?_
  refine run_ret ?_
  obtain rfl := some_eq h
  refine fin_slots [2] [.bool r16] [] [] Try.results4 rfl (by decide) rfl ?_
  exact ⟨rfl, rfl⟩
 ·replace h := cond_f h hc15
  refine run_skip ?_
  refine goes_code ?_
  refine run_seq ?_
  refine run_region' ?_
  refine oy rfl rfl (y_load_boxagg (c := [.string (bs p_0.Name), p_0_Effectsv, p_0_Codev]) 2 Try.isAgg25 Try.sizeOf25 rfl rfl rfl) ?_
  obtain ⟨r18, hr19, h⟩ := obind_some h
  refine ot rfl rfl (t_callx (vs := [.agg #[.string (bs p_0.Name), p_0_Effectsv, p_0_Codev]]) (cs := []) [(0, 0), (1, 0)] rfl Try.call9 rfl (compile_Compile_ok n  p_0 p_0_Effectsv p_0_Codev hr19) (showsX_view 0 rfl views_ro (showsX_view 1 rfl views_nro showsX_nil)) rfl (.inl rfl)) ?_
  rintro _ _ ⟨_, ⟨v20, v21, rfl, rfl⟩, rfl⟩
  refine oy rfl rfl (y_move rfl) ?_
  refine oy rfl rfl (y_extract rfl rfl) ?_
  refine oy rfl rfl (y_extract rfl rfl) ?_
  refine ot rfl rfl (t_alloc Try.zeroValue31) ?_
  rintro _ _ ⟨b22, rfl, rfl⟩
  refine ops_slc 3 rfl reads_row (fun hs23 hs23o => ?_)
  refine ops_slc 4 rfl reads_row (fun hs24 hs24o => ?_)
  refine ot rfl rfl (t_store 5 Try.sizeOf31 rfl rfl rfl rfl (by simp [Value.cells, boxP]) (allL_cons rfl (allL_cons hs23o (allL_cons hs24o (allL_nil))))) ?_
  rintro _ _ ⟨rfl, rfl⟩
  refine ops_turn (retell 5 (g := box b22 [.string (bs r18.1.Name), v20, v21]) rfl rfl) ?_
  refine oy rfl rfl (y_assign rfl) ?_
  refine ops_nil ?_
  refine goes_code ?_
  refine run_seq ?_
  refine run_weak [(1, boxP b1 0), (3, boxP b22 0), (4, .int .i64 r18.2)] [0, 1, 2, 3, 4, 5] [ro p_0_Effectsv 1 (p_0.Effects.map (eInt .i64)), nro p_0_Codev NC_api_TStmt_50 p_0.Code, box b1 [.string (bs p_0.Name), p_0_Effectsv, p_0_Codev], row v20 1 (r18.1.Effects.map (eInt .i64)), row v21 3 (r18.1.Code.map S_api_Instr.enc), box b22 [.string (bs r18.1.Name), v20, v21]] (qv3 rfl rfl rfl) (by decide) rfl ?_
  refine run_region' ?_
  refine oy rfl rfl (y_load_boxagg (c := [.string (bs r18.1.Name), v20, v21]) 5 Try.isAgg31 Try.sizeOf31 rfl rfl rfl) ?_
  obtain ⟨r25, hr26, h⟩ := obind_some h
  refine ot rfl rfl (t_callx (vs := [.agg #[.string (bs r18.1.Name), v20, v21]]) (cs := []) [(3, 1), (4, 1)] rfl Try.call13 rfl (compile_Encode_ok n  r18.1 v20 v21 hr26) (showsX_look 3 rfl views_row (showsX_look 4 rfl views_row showsX_nil)) rfl (.inr (by rintro _ _ ⟨_, rfl, rfl⟩ g hg; first | (cases hg; done) | (simp only [List.mem_cons, List.not_mem_nil, or_false] at hg; first | (subst hg; first | exact strict_row | exact strict_box) | (rcases hg with rfl | rfl <;> first | exact strict_row | exact strict_box) | (rcases hg with rfl | rfl | rfl <;> first | exact strict_row | exact strict_box))))) ?_
  rintro v27 _ ⟨_, ⟨_, rfl, rfl⟩, rfl⟩
  obtain ⟨r28, hr29, h⟩ := obind_some h
  refine ot rfl rfl (t_callx (vs := [v27]) (cs := []) [(6, 1)] rfl Try.call12 rfl (compile_Decode_ok n  r25 v27 hr29) (showsX_look 6 rfl views_row showsX_nil) rfl (.inr (by rintro _ _ ⟨_, _, rfl, rfl⟩ g hg; first | (cases hg; done) | (simp only [List.mem_cons, List.not_mem_nil, or_false] at hg; first | (subst hg; first | exact strict_row | exact strict_box) | (rcases hg with rfl | rfl <;> first | exact strict_row | exact strict_box) | (rcases hg with rfl | rfl | rfl <;> first | exact strict_row | exact strict_box))))) ?_
  rintro _ _ ⟨_, ⟨v30, v31, rfl, rfl⟩, rfl⟩
  refine oy rfl rfl (y_move rfl) ?_
  refine oy rfl rfl (y_extract rfl rfl) ?_
  refine oy rfl rfl (y_extract rfl rfl) ?_
  refine ot rfl rfl (t_alloc Try.zeroValue31) ?_
  rintro _ _ ⟨b32, rfl, rfl⟩
  refine ops_slc 7 rfl reads_row (fun hs33 hs33o => ?_)
  refine ops_slc 8 rfl reads_row (fun hs34 hs34o => ?_)
  refine ot rfl rfl (t_store 9 Try.sizeOf31 rfl rfl rfl rfl (by simp [Value.cells, boxP]) (allL_cons rfl (allL_cons hs33o (allL_cons hs34o (allL_nil))))) ?_
  rintro _ _ ⟨rfl, rfl⟩
  refine ops_turn (retell 9 (g := box b32 [.string (bs r28.1.Name), v30, v31]) rfl rfl) ?_
  refine oy rfl rfl (y_assign rfl) ?_
  refine ops_nil ?_
  refine goes_code ?_
  refine run_seq ?_
  refine run_weak [(1, boxP b1 0), (3, boxP b22 0), (4, .int .i64 r18.2), (5, boxP b32 0), (6, .int .i64 r28.2)] [0, 1, 2, 3, 4, 5, 7, 8, 9] [ro p_0_Effectsv 1 (p_0.Effects.map (eInt .i64)), nro p_0_Codev NC_api_TStmt_50 p_0.Code, box b1 [.string (bs p_0.Name), p_0_Effectsv, p_0_Codev], row v20 1 (r18.1.Effects.map (eInt .i64)), row v21 3 (r18.1.Code.map S_api_Instr.enc), box b22 [.string (bs r18.1.Name), v20, v21], row v30 1 (r28.1.Effects.map (eInt .i64)), row v31 3 (r28.1.Code.map S_api_Instr.enc), box b32 [.string (bs r28.1.Name), v30, v31]] (qv5 rfl rfl rfl rfl rfl) (by decide) rfl ?_
  refine run_region' ?_
  obtain ⟨r35, hr36, h⟩ := obind_some h
  refine ot rfl rfl (t_callx (vs := []) (cs := []) [] rfl Try.call8 rfl (law28_sanity_ok n    hr36) showsX_nil rfl (.inl rfl)) ?_
  rintro _ _ ⟨_, ⟨rfl, rfl⟩, rfl⟩
  refine oy rfl rfl (y_move rfl) ?_
  refine ops_cut 3 (Bool) (fun σ => [(1, boxP b1 0), (3, boxP b22 0), (5, boxP b32 0), (6, .int .i64 r28.2), (38, .bool σ)]) (fun σ => [ro p_0_Effectsv 1 (p_0.Effects.map (eInt .i64)), nro p_0_Codev NC_api_TStmt_50 p_0.Code, box b1 [.string (bs p_0.Name), p_0_Effectsv, p_0_Codev], row v20 1 (r18.1.Effects.map (eInt .i64)), row v21 3 (r18.1.Code.map S_api_Instr.enc), box b22 [.string (bs r18.1.Name), v20, v21], row v30 1 (r28.1.Effects.map (eInt .i64)), row v31 3 (r28.1.Code.map S_api_Instr.enc), box b32 [.string (bs r28.1.Name), v30, v31]]) (fun σ => σ = (r35 && decide (r18.2 = 0))) (fun L37 hL38 => ?_) ?_
  ·refine ops_split 35 r35 rfl (fun hg39 => ?_) (fun hg39 => ?_)
   ·skip
    refine ops_y (wg 1 true 35 rfl rfl rfl rfl) rfl (y_move rfl) ?_
    refine ops_y (wg 1 true 35 rfl rfl rfl rfl) rfl (y_eql rfl rfl) ?_
    refine oy rfl rfl (y_pick (b := true) rfl rfl) ?_
    refine ops_nil ?_
    exact goes_cut hL38 (decide (r18.2 = 0)) [0, 1, 2, 3, 4, 5, 6, 7, 8] (qv5 rfl rfl rfl rfl rfl) (by decide) rfl (by rw [hg39]; simp)
   ·skip
    refine ops_no 1 true 35 rfl rfl rfl rfl rfl ?_
    refine ops_no 1 true 35 rfl rfl rfl rfl rfl ?_
    refine oy rfl rfl (y_pick (b := false) rfl rfl) ?_
    refine ops_nil ?_
    exact goes_cut hL38 false [0, 1, 2, 3, 4, 5, 6, 7, 8] (qv5 rfl rfl rfl rfl rfl) (by decide) rfl (by rw [hg39]; simp)
  rintro _ rfl
  refine oy rfl rfl (y_move rfl) ?_
  obtain ⟨o41, h, ho42⟩ := bindJ_some h
  refine ops_cut 4 (Bool) (fun σ => [(1, boxP b1 0), (3, boxP b22 0), (5, boxP b32 0), (6, .int .i64 r28.2), (43, .bool σ)]) (fun σ => [ro p_0_Effectsv 1 (p_0.Effects.map (eInt .i64)), nro p_0_Codev NC_api_TStmt_50 p_0.Code, box b1 [.string (bs p_0.Name), p_0_Effectsv, p_0_Codev], row v20 1 (r18.1.Effects.map (eInt .i64)), row v21 3 (r18.1.Code.map S_api_Instr.enc), box b22 [.string (bs r18.1.Name), v20, v21], row v30 1 (r28.1.Effects.map (eInt .i64)), row v31 3 (r28.1.Code.map S_api_Instr.enc), box b32 [.string (bs r28.1.Name), v30, v31]]) (fun σ => o41 = .go σ) (fun L43 hL44 => ?_) ?_
  ·refine ops_split 39 (r35 && decide (r18.2 = 0)) rfl (fun hg45 => ?_) (fun hg45 => ?_)
   ·replace h := cond_t h hg45
    refine ops_y (wg 5 true 39 rfl rfl rfl rfl) rfl (y_load_boxagg (c := [.string (bs r18.1.Name), v20, v21]) 5 Try.isAgg31 Try.sizeOf31 rfl rfl rfl) ?_
    obtain ⟨r46, hr47, h⟩ := obind_some h
    refine ops_t (wg 5 true 39 rfl rfl rfl rfl) rfl (t_callx (vs := [.agg #[.string (bs r18.1.Name), v20, v21]]) (cs := []) [(3, 1), (4, 1)] rfl Try.call14 rfl (compile_Check_ok n  r18.1 v20 v21 hr47) (showsX_look 3 rfl views_row (showsX_look 4 rfl views_row showsX_nil)) rfl (.inr (by rintro _ _ ⟨rfl, rfl⟩ g hg; first | (cases hg; done) | (simp only [List.mem_cons, List.not_mem_nil, or_false] at hg; first | (subst hg; first | exact strict_row | exact strict_box) | (rcases hg with rfl | rfl <;> first | exact strict_row | exact strict_box) | (rcases hg with rfl | rfl | rfl <;> first | exact strict_row | exact strict_box))))) ?_
    rintro _ _ ⟨_, ⟨rfl, rfl⟩, rfl⟩
    refine ops_y (wg 5 true 39 rfl rfl rfl rfl) rfl (y_eql rfl rfl) ?_
    refine oy rfl rfl (y_pick (b := true) rfl rfl) ?_
    refine ops_nil ?_
    obtain rfl := some_eq h
    exact goes_cut hL44 (decide (r46 = 0)) [0, 1, 2, 3, 4, 5, 6, 7, 8] (qv5 rfl rfl rfl rfl rfl) (by decide) rfl rfl
   ·replace h := cond_f h hg45
    refine ops_no 5 true 39 rfl rfl rfl rfl rfl ?_
    refine ops_no 5 true 39 rfl rfl rfl rfl rfl ?_
    refine ops_no 5 true 39 rfl rfl rfl rfl rfl ?_
    refine oy rfl rfl (y_pick (b := false) rfl rfl) ?_
    refine ops_nil ?_
    obtain rfl := some_eq h
    exact goes_cut hL44 false [0, 1, 2, 3, 4, 5, 6, 7, 8] (qv5 rfl rfl rfl rfl rfl) (by decide) rfl rfl
  rintro b40 hj
  obtain rfl : o41 = _ := hj
  replace h := after_go ho42
  clear ho42
  refine oy rfl rfl (y_move rfl) ?_
  refine ops_cut 6 (Bool) (fun σ => [(1, boxP b1 0), (3, boxP b22 0), (5, boxP b32 0), (6, .int .i64 r28.2), (50, .bool σ)]) (fun σ => [ro p_0_Effectsv 1 (p_0.Effects.map (eInt .i64)), nro p_0_Codev NC_api_TStmt_50 p_0.Code, box b1 [.string (bs p_0.Name), p_0_Effectsv, p_0_Codev], row v20 1 (r18.1.Effects.map (eInt .i64)), row v21 3 (r18.1.Code.map S_api_Instr.enc), box b22 [.string (bs r18.1.Name), v20, v21], row v30 1 (r28.1.Effects.map (eInt .i64)), row v31 3 (r28.1.Code.map S_api_Instr.enc), box b32 [.string (bs r28.1.Name), v30, v31]]) (fun σ => σ = (b40 && decide (r18.1.Name = p_0.Name))) (fun L48 hL49 => ?_) ?_
  ·refine ops_split 44 b40 rfl (fun hg50 => ?_) (fun hg50 => ?_)
   ·skip
    refine ops_y (wg 10 true 44 rfl rfl rfl rfl) rfl (y_fieldAddr_box (sz := 0) Try.runUnderlying31 rfl Try.sizeOf9 rfl) ?_
    refine ops_y (wg 10 true 44 rfl rfl rfl rfl) rfl (y_load_box 5 Try.isAgg9 rfl rfl rfl) ?_
    refine ops_y (wg 10 true 44 rfl rfl rfl rfl) rfl (y_fieldAddr_box (sz := 0) Try.runUnderlying25 rfl Try.sizeOf9 rfl) ?_
    refine ops_y (wg 10 true 44 rfl rfl rfl rfl) rfl (y_load_box 2 Try.isAgg9 rfl rfl rfl) ?_
    refine ops_y (wg 10 true 44 rfl rfl rfl rfl) rfl (y_seql rfl rfl) ?_
    refine oy rfl rfl (y_pick (b := true) rfl rfl) ?_
    refine ops_nil ?_
    exact goes_cut hL49 (decide (r18.1.Name = p_0.Name)) [0, 1, 2, 3, 4, 5, 6, 7, 8] (qv5 rfl rfl rfl rfl rfl) (by decide) rfl (by rw [hg50]; simp)
   ·skip
    refine ops_no 10 true 44 rfl rfl rfl rfl rfl ?_
    refine ops_no 10 true 44 rfl rfl rfl rfl rfl ?_
    refine ops_no 10 true 44 rfl rfl rfl rfl rfl ?_
    refine ops_no 10 true 44 rfl rfl rfl rfl rfl ?_
    refine ops_no 10 true 44 rfl rfl rfl rfl rfl ?_
    refine oy rfl rfl (y_pick (b := false) rfl rfl) ?_
    refine ops_nil ?_
    exact goes_cut hL49 false [0, 1, 2, 3, 4, 5, 6, 7, 8] (qv5 rfl rfl rfl rfl rfl) (by decide) rfl (by rw [hg50]; simp)
  rintro _ rfl
  refine oy rfl rfl (y_move rfl) ?_
  refine ops_cut 8 (Bool) (fun σ => [(3, boxP b22 0), (5, boxP b32 0), (6, .int .i64 r28.2), (59, .bool σ)]) (fun σ => [row v20 1 (r18.1.Effects.map (eInt .i64)), row v21 3 (r18.1.Code.map S_api_Instr.enc), box b22 [.string (bs r18.1.Name), v20, v21], row v30 1 (r28.1.Effects.map (eInt .i64)), row v31 3 (r28.1.Code.map S_api_Instr.enc), box b32 [.string (bs r28.1.Name), v30, v31]]) (fun σ => σ = ((b40 && decide (r18.1.Name = p_0.Name)) && decide ((r18.1.Effects.length : Int) = (p_0.Effects.length : Int)))) (fun L51 hL52 => ?_) ?_
  ·refine ops_split 51 (b40 && decide (r18.1.Name = p_0.Name)) rfl (fun hg53 => ?_) (fun hg53 => ?_)
   ·skip
    refine ops_y (wg 17 true 51 rfl rfl rfl rfl) rfl (y_fieldAddr_box (sz := 0) Try.runUnderlying31 rfl Try.sizeOf22 rfl) ?_
    refine ops_y (wg 17 true 51 rfl rfl rfl rfl) rfl (y_load_box 5 Try.isAgg22 rfl rfl rfl) ?_
    refine ops_y (wg 17 true 51 rfl rfl rfl rfl) rfl ((y_len 3 rfl Try.runUnderlying22 rfl rfl reads_row).to (v_len (eInt .i64) _)) ?_
    refine ops_y (wg 17 true 51 rfl rfl rfl rfl) rfl (y_fieldAddr_box (sz := 0) Try.runUnderlying25 rfl Try.sizeOf22 rfl) ?_
    refine ops_y (wg 17 true 51 rfl rfl rfl rfl) rfl (y_load_box 2 Try.isAgg22 rfl rfl rfl) ?_
    refine ops_y (wg 17 true 51 rfl rfl rfl rfl) rfl ((y_len 0 rfl Try.runUnderlying22 rfl rfl reads_ro).to (v_len (eInt .i64) _)) ?_
    refine ops_y (wg 17 true 51 rfl rfl rfl rfl) rfl (y_eql rfl rfl) ?_
    refine oy rfl rfl (y_pick (b := true) rfl rfl) ?_
    refine ops_nil ?_
    exact goes_cut hL52 (decide ((r18.1.Effects.length : Int) = (p_0.Effects.length : Int))) [3, 4, 5, 6, 7, 8] (qv4 rfl rfl rfl rfl) (by decide) rfl (by rw [hg53]; simp)
   ·skip
    refine ops_no 17 true 51 rfl rfl rfl rfl rfl ?_
    refine ops_no 17 true 51 rfl rfl rfl rfl rfl ?_
    refine ops_no 17 true 51 rfl rfl rfl rfl rfl ?_
    refine ops_no 17 true 51 rfl rfl rfl rfl rfl ?_
    refine ops_no 17 true 51 rfl rfl rfl rfl rfl ?_
    refine ops_no 17 true 51 rfl rfl rfl rfl rfl ?_
    refine ops_no 17 true 51 rfl rfl rfl rfl rfl ?_
    refine oy rfl rfl (y_pick (b := false) rfl rfl) ?_
    refine ops_nil ?_
    exact goes_cut hL52 false [3, 4, 5, 6, 7, 8] (qv4 rfl rfl rfl rfl) (by decide) rfl (by rw [hg53]; simp)
  rintro _ rfl
  refine oy rfl rfl (y_move rfl) ?_
  refine ops_cut 3 (Bool) (fun σ => [(3, boxP b22 0), (5, boxP b32 0), (63, .bool σ)]) (fun σ => [row v20 1 (r18.1.Effects.map (eInt .i64)), row v21 3 (r18.1.Code.map S_api_Instr.enc), box b22 [.string (bs r18.1.Name), v20, v21], row v30 1 (r28.1.Effects.map (eInt .i64)), row v31 3 (r28.1.Code.map S_api_Instr.enc), box b32 [.string (bs r28.1.Name), v30, v31]]) (fun σ => σ = (((b40 && decide (r18.1.Name = p_0.Name)) && decide ((r18.1.Effects.length : Int) = (p_0.Effects.length : Int))) && decide (r28.2 = 0))) (fun L54 hL55 => ?_) ?_
  ·refine ops_split 60 ((b40 && decide (r18.1.Name = p_0.Name)) && decide ((r18.1.Effects.length : Int) = (p_0.Effects.length : Int))) rfl (fun hg56 => ?_) (fun hg56 => ?_)
   ·skip
    refine ops_y (wg 26 true 60 rfl rfl rfl rfl) rfl (y_move rfl) ?_
    refine ops_y (wg 26 true 60 rfl rfl rfl rfl) rfl (y_eql rfl rfl) ?_
    refine oy rfl rfl (y_pick (b := true) rfl rfl) ?_
    refine ops_nil ?_
    exact goes_cut hL55 (decide (r28.2 = 0)) [0, 1, 2, 3, 4, 5] (qv3 rfl rfl rfl) (by decide) rfl (by rw [hg56]; simp)
   ·skip
    refine ops_no 26 true 60 rfl rfl rfl rfl rfl ?_
    refine ops_no 26 true 60 rfl rfl rfl rfl rfl ?_
    refine oy rfl rfl (y_pick (b := false) rfl rfl) ?_
    refine ops_nil ?_
    exact goes_cut hL55 false [0, 1, 2, 3, 4, 5] (qv3 rfl rfl rfl) (by decide) rfl (by rw [hg56]; simp)
  rintro _ rfl
  refine oy rfl rfl (y_move rfl) ?_
  obtain ⟨o58, h, ho59⟩ := bindJ_some h
  refine ops_cut 4 (Bool) (fun σ => [(68, .bool σ)]) (fun σ => []) (fun σ => o58 = .go σ) (fun L60 hL61 => ?_) ?_
  ·refine ops_split 64 (((b40 && decide (r18.1.Name = p_0.Name)) && decide ((r18.1.Effects.length : Int) = (p_0.Effects.length : Int))) && decide (r28.2 = 0)) rfl (fun hg62 => ?_) (fun hg62 => ?_)
   ·replace h := cond_t h hg62
    refine ops_y (wg 30 true 64 rfl rfl rfl rfl) rfl (y_load_boxagg (c := [.string (bs r28.1.Name), v30, v31]) 5 Try.isAgg31 Try.sizeOf31 rfl rfl rfl) ?_
    refine ops_y (wg 30 true 64 rfl rfl rfl rfl) rfl (y_load_boxagg (c := [.string (bs r18.1.Name), v20, v21]) 2 Try.isAgg31 Try.sizeOf31 rfl rfl rfl) ?_
    obtain ⟨r63, hr64, h⟩ := obind_some h
    refine ops_t (wg 30 true 64 rfl rfl rfl rfl) rfl (t_callx (vs := [.agg #[.string (bs r28.1.Name), v30, v31], .agg #[.string (bs r18.1.Name), v20, v21]]) (cs := []) [(3, 1), (4, 1), (0, 1), (1, 1)] rfl Try.call11 rfl (ref28_Same_v1_ok n  r28.1 r18.1 v30 v31 v20 v21 hr64) (showsX_look 3 rfl views_row (showsX_look 4 rfl views_row (showsX_look 0 rfl views_row (showsX_look 1 rfl views_row showsX_nil)))) rfl (.inr (by rintro _ _ ⟨rfl, rfl⟩ g hg; first | (cases hg; done) | (simp only [List.mem_cons, List.not_mem_nil, or_false] at hg; first | (subst hg; first | exact strict_row | exact strict_box) | (rcases hg with rfl | rfl <;> first | exact strict_row | exact strict_box) | (rcases hg with rfl | rfl | rfl <;> first | exact strict_row | exact strict_box))))) ?_
    rintro _ _ ⟨_, ⟨rfl, rfl⟩, rfl⟩
    refine oy rfl rfl (y_pick (b := true) rfl rfl) ?_
    refine ops_nil ?_
    obtain rfl := some_eq h
    exact goes_cut hL61 r63 [] (qv1 rfl) (by decide) rfl rfl
   ·replace h := cond_f h hg62
    refine ops_no 30 true 64 rfl rfl rfl rfl rfl ?_
    refine ops_no 30 true 64 rfl rfl rfl rfl rfl ?_
    refine ops_no 30 true 64 rfl rfl rfl rfl rfl ?_
    refine oy rfl rfl (y_pick (b := false) rfl rfl) ?_
    refine ops_nil ?_
    obtain rfl := some_eq h
    exact goes_cut hL61 false [] (qv1 rfl) (by decide) rfl rfl
  rintro b57 hj
  obtain rfl : o58 = _ := hj
  replace h := after_go ho59
  clear ho59
  refine oy rfl rfl (y_assign rfl) ?_
  refine ops_nil ?_
  refine goes_code ?_
  refine run_ret ?_
  obtain rfl := some_eq h
  refine fin_slots [2] [.bool b57] [] [] Try.results4 rfl (by decide) rfl ?_
  exact ⟨rfl, rfl⟩

end Go.Proofs.Ytgjdaamkfpbgpaa
namespace Go.Proofs.Ytgjdaamkfpbgpaa
open Go.Abs
set_option linter.unusedVariables false
set_option linter.unusedSimpArgs false

/-- the check accepts what is compiled -/
theorem check_ok (n : Nat) (m : S_api_Module) (l : List S_api_TStmt) (hn : 100000 ≤ n) (hC : m.Code = cB l 0 0) (hr : rB l []) (hl : nodesB l ≤ 200) (hN : m.Name.length ≤ 200) (he : effB m.Effects) : compile_Check n m = some 0 := by
  have hcl := cB_len l 0 0
  have hlen : m.Code.length ≤ 1400 := by rw [hC]; omega
  have h0 : ∀ k : Int, mget (mput ([] : MT) (0 : Int) (S_compile_types.mk [] [] [])) k = if k = 0 then some ⟨[], [], []⟩ else none := fun k => by rw [mget_putM]; rfl
  have hv0 : (cB l 0 (([] : List Int).length : Int)) = m.Code := by rw [hC]; rfl
  obtain ⟨M, ⟨_, hs⟩, g, _⟩ := walkB (n := n) (m := m) hn (by omega) l 0 (mput ([] : MT) (0 : Int) (S_compile_types.mk [] [] [])) [] [] hr (by rw [hv0]; exact ⟨[], [], by simp, rfl⟩) (by rw [h0]; rfl)
    ⟨fun k k1 k2 => by rw [h0, if_neg (by omega)], fun hp => .inl (by rw [h0, if_neg (by omega)])⟩ (by simp) (by simp; omega)
  rw [hv0] at hs g
  have hit := hs (n - m.Code.length)
  rw [show n - m.Code.length + (0 + m.Code.length - 0) = n by omega] at hit
  have hend : iter (compile_Check_L1 n m) (n - m.Code.length) (((0 + m.Code.length : Nat) : Int), M) = some (.go M) := by
    rw [show n - m.Code.length = (n - m.Code.length - 1) + 1 by omega]
    apply iter_stop
    unfold compile_Check_L1
    simp
  unfold compile_Check
  rw [show (decide (65536 < (m.Code.length : Int)) || decide (200 < (m.Name.length : Int))) = false by simp; omega]
  simp only [cond_false, tright_ok n m.Effects (by have := he.1; omega) he, obind, Option.bind_some, Bool.not_true, bindJ_go]
  rw [show ((0 : Int), mput ([] : MT) (0 : Int) (S_compile_types.mk [] [] [])) = (((0 : Nat) : Int), mput ([] : MT) (0 : Int) (S_compile_types.mk [] [] [])) from rfl, hit, hend]
  simp only [bindJ_go]
  rw [show (m.Code.length : Int) = ((0 + m.Code.length : Nat) : Int) by omega, g]
  simp
theorem compile_ok (N : Nat) (p : S_api_Program) (hok : okB p.Code) (hN : nodesB p.Code + 1 < N) (hnd : nodesB p.Code ≤ 200) (he : p.Effects.length ≤ 1048576) : compile_Compile N p = some (⟨p.Name, p.Effects, cB p.Code 0 0⟩, 0) := by
  have hc := ccode N p.Code [] 0 hok hN (by simp; omega) (by omega) (by omega)
  have hl := cB_len p.Code 0 0
  unfold compile_Compile
  simp only [obind, hc, Option.bind_some, List.length_nil, List.nil_append]
  have h1 : decide (65536 < ((cB p.Code 0 0).length : Int)) = false := decide_eq_false (by omega)
  rw [h1, cond_false]
  exact need_pos (by omega) _
theorem law4_tail {N : Nat} {p : S_api_Program} {r : Int} {q d : S_api_Module × Int} {bs : List UInt8} (h1 : ref20_Size N p.Code 200 = some r) (hc : (decide (200 < r) || decide (200 < (p.Name.length : Int))) = false) (h2 : ref20_Right N p = some true) (h3 : compile_Compile N p = some q) (h4 : compile_Encode N q.1 = some bs) (h5 : compile_Decode N bs = some d)
    (h6 : law28_sanity N = some true) (h7 : q.2 = 0) (h8 : compile_Check N q.1 = some 0) (h9 : q.1.Name = p.Name) (h10 : (q.1.Effects.length : Int) = (p.Effects.length : Int)) (h11 : d.2 = 0) (h12 : ref28_Same_v1 N d.1 q.1 = some true) : law28_CompileIsChecked N p = some true := by
  unfold law28_CompileIsChecked
  simp only [h1, hc, h2, h3, h4, h5, h6, h7, h8, h9, h10, h11, h12, obind, Option.bind_some, cond_false, bindJ_go, Bool.not_true, decide_true, Bool.and_self, cond_true]
theorem law4 (p : S_api_Program) (h : nodesB p.Code ≤ 1048576) (he : p.Effects.length ≤ 1048576) : ∃ n, law28_CompileIsChecked n p = some true := by
  refine ⟨8 * nodesB p.Code + p.Effects.length + 999800 + 200, ?_⟩
  generalize hN : 8 * nodesB p.Code + p.Effects.length + 999800 + 200 = N
  obtain ⟨r, hr, r0, r1, r2⟩ := sizeB2 N p.Code (by omega) (by omega)
  have hs : law28_sanity N = some true := by rw [← hN]; exact sane (8 * nodesB p.Code + p.Effects.length + 999800)
  by_cases hcs : 200 < r ∨ 200 < p.Name.length
  · unfold law28_CompileIsChecked
    rw [hr]
    simp only [obind, Option.bind_some, hs]
    rw [show (decide (200 < r) || decide (200 < (p.Name.length : Int))) = true by simp; omega]; rfl
  · have hcf : (decide (200 < r) || decide (200 < (p.Name.length : Int))) = false := by simp; omega
    obtain ⟨b, hb, hok⟩ := right_ex2 N p (by omega) (by omega) (by omega) (by omega)
    cases b
    · unfold law28_CompileIsChecked
      rw [hr]
      simp only [obind, Option.bind_some, hs, hcf, hb, cond_false, bindJ_go]
      rfl
    · obtain ⟨hrB, heB⟩ := hok rfl
      have hnd : nodesB p.Code ≤ 200 := by have := r2 (by omega); omega
      have hl := cB_len p.Code 0 0
      have hcmp := compile_ok N p (okB_of _ _ hrB) (by omega) hnd (by omega)
      have hck := check_ok N ⟨p.Name, p.Effects, cB p.Code 0 0⟩ p.Code (by omega) rfl hrB hnd (by simp only; omega) heB
      have hrg : ∀ y ∈ cB p.Code 0 0, Rg y := rgB p.Code 0 [] hrB (by omega) (by omega) (by simp; omega)
      generalize hm : S_api_Module.mk p.Name p.Effects (cB p.Code 0 0) = m at hck hcmp
      have m1 : m.Name = p.Name := by rw [← hm]
      have m2 : m.Effects = p.Effects := by rw [← hm]
      have m3 : m.Code = cB p.Code 0 0 := by rw [← hm]
      have e6 := heB.1
      have hml : m.Code.length ≤ 1400 := by rw [m3]; omega
      have tT : ∀ v ∈ textsOf m, v.length ≤ 200 := by
        intro v hv
        rcases List.mem_cons.1 hv with rfl | hv
        · rw [m1]; omega
        · obtain ⟨x, hx, rfl⟩ := List.mem_map.1 hv; rw [m3] at hx; exact (hrg x hx).2.2
      have tE : ∀ v ∈ m.Effects, R64 v := by rw [m2]; intro v hv; have := heB.2.1 v hv; exact ⟨by omega, by omega⟩
      have tN : ∀ v ∈ numsOf m, R64 v := by
        intro v hv
        obtain ⟨x, hx, hv⟩ := List.mem_flatMap.1 hv
        rw [m3] at hx
        simp at hv
        rcases hv with rfl | rfl
        · exact (hrg x hx).1
        · exact (hrg x hx).2.1
      have l1 : (textsOf m).length = m.Code.length + 1 := by simp [textsOf]
      have l2 : (numsOf m).length = 2 * m.Code.length := nums_len _
      have l3 : m.Effects.length ≤ 6 := by rw [m2]; exact e6
      have s1 : ((textsOf m).flatMap encS).length ≤ 210 * (textsOf m).length := flat_max _ fun v hv => by have := encS_le (s := v) (by have := tT v hv; omega); have := tT v hv; omega
      have s2 : (m.Effects.flatMap encI).length ≤ 10 * m.Effects.length := flat_max _ fun v hv => (encI_len (tE v hv).1 (tE v hv).2).2
      have s3 : ((numsOf m).flatMap encI).length ≤ 10 * (numsOf m).length := flat_max _ fun v hv => (encI_len (tN v hv).1 (tN v hv).2).2
      have hen := encode_ok (n := N) (m := m) (by omega) (by omega) (by omega) (by omega) (fun v hv => by have := tT v hv; omega) tE tN (by omega) (by omega) (by omega)
      have hel : (encM m).length < 400000 := by
        unfold encM encL
        have e1 := (encI_len (n := ((textsOf m).length : Int)) (by omega) (by omega)).2
        have e2 := (encI_len (n := (m.Effects.length : Int)) (by omega) (by omega)).2
        have e3 := (encI_len (n := ((numsOf m).length : Int)) (by omega) (by omega)).2
        simp only [List.length_append]; omega
      have hp := parts_enc m (by omega) (by omega) (fun v hv => by have := tT v hv; omega) tE tN
      have hd := decode_ok (n := N) (b := encM m) (by omega) (by omega)
      simp only [hp, hck, obind, Option.bind_some] at hd
      have hd0 : compile_Decode N (encM m) = some (m, 0) := hd
      exact law4_tail hr hcf hb hcmp hen hd0 hs rfl hck m1 (by rw [m2]) rfl (same_v1 N m (by omega) (by omega) (by omega) (by omega))
end Go.Proofs.Ytgjdaamkfpbgpaa
namespace Go.Abs
open Go.Sem Go.ChangeShapes Go.RowKit
section
variable {H : Type} {enc : TypeId × Value → H} {P : Program} {w : World} {base : Nat} {sp : Nat → Bool} {held : Bool}
end
end Go.Abs
namespace Go.Abs
open Go.Sem Go.ChangeShapes Go.RowKit
section
variable {H : Type} {enc : TypeId × Value → H} {P : Program} {w : World} {base : Nat} {sp : Nat → Bool} {held : Bool}
def wfI (k : IntKind) (n : Int) : Prop := (Lit.int k n).wf = true
/-- a type is opened: what is read of it lies in the cells 'F a', and a is well formed -/
def Opens (enc : TypeId × Value → H) (P : Program) (w : World) (base : Nat) (sp : Nat → Bool) (held : Bool) (t : TypeId) {α : Type} (F : α → List Value) (wf : α → Prop) : Prop :=
  ∀ (fuel : Nat) (cs : List Value) (x : DataW H × List MemPlace), DataW.trod enc P w base sp held fuel t cs = some x → ∃ a, cs = F a ∧ wf a
theorem opn_int {t : TypeId} {k : IntKind} (ht : P.underlying t = some (.int k)) : Opens enc P w base sp held t (eInt k) (wfI k) := by
  intro fuel cs x h
  obtain ⟨n, hc, _, hw⟩ := DataW.trod_int ht h
  exact ⟨n, hc, hw⟩
end
end Go.Abs
namespace Go.Abs
open Go.Sem Go.ChangeShapes Go.RowKit
section
variable {H : Type} {enc : TypeId × Value → H} {P : Program} {w : World} {base : Nat} {sp : Nat → Bool} {held : Bool}
theorem opn_str {t : TypeId} (ht : P.underlying t = some .string) : Opens enc P w base sp held t eStr (fun l => l.length ≤ maxLen) := by
  intro fuel cs x h
  obtain ⟨s, hc, _, hl⟩ := DataW.trod_string ht h
  exact ⟨s.data.toList, by rw [hc]; rfl, hl⟩
def noO : Own := fun _ => .no
end
end Go.Abs
namespace Go.Proofs.Ytgjdaamkfpbgpaa
open Go.Abs Go.Sem Go.ChangeShapes Go.RowKit
set_option linter.unusedVariables false
set_option maxRecDepth 100000

section
variable {H : Type} {enc : TypeId × Value → H} {w : World} {base : Nat} {sp : Nat → Bool} {held : Bool}
theorem opn_sliceQ {P : Program} {t e : TypeId} {es : Nat} {α : Type} {F : α → List Value} {q : α → DataW H → Prop} (ht : P.underlying t = some (.slice e)) (hce : P.cellsOf e = es) (hes : 0 < es) (hF : ∀ a, (F a).length = es) {fuel : Nat}
    (ho : ∀ m, m < fuel → ∀ (cs : List Value) (x : DataW H × List MemPlace), DataW.trod enc P w base sp held m e cs = some x → ∃ a, cs = F a ∧ q a x.1) {cs : List Value} {x : DataW H × List MemPlace} (h : DataW.trod enc P w base sp held fuel t cs = some x) :
    ∃ (v : Value) (l : List α), cs = [v] ∧ SliceIs w (fun b => (fun _ => Ow.no : Own) b = .no) v es (l.map F) ∧
      ((x.1 = .nil ∧ l = []) ∨ ∃ ys rs, x.1 = .slice ys rs ∧ ys.length = l.length ∧ ∀ (i : Nat) (a : α) (y : DataW H), l[i]? = some a → ys[i]? = some y → q a y) := by
  rcases DataW.trod_slice ht h with ⟨rfl, hx⟩ | ⟨a, len, cap, elems, rest, m, hfu, rfl, rfl, hb, hl, hm, hlen, hel', hsp, hns⟩
  · exact ⟨_, [], rfl, slice_nil, .inl ⟨by rw [hx], rfl⟩⟩
  · have each : ∀ i, i < len → ∃ d : α, (∀ y, elems[i]? = some y → q d y.1) ∧ ∀ j v, (F d)[j]? = some v → w.cell? (a.add (i * es + j)) = some v := by
      intro i hi
      have h1 := hel' i hi
      rw [List.getElem?_eq_getElem (by omega), hce, Option.bind_eq_some_iff] at h1
      obtain ⟨cs', hcs, hy⟩ := h1
      obtain ⟨d, rfl, hd⟩ := ho m (by omega) _ _ hy
      refine ⟨d, fun y hy' => ?_, fun j v hj => ?_⟩
      · rw [List.getElem?_eq_getElem (by omega)] at hy'
        obtain rfl := Option.some.inj hy'
        exact hd
      have hjlt : j < es := by have := (List.getElem?_eq_some_iff.1 hj).1; rw [hF] at this; omega
      have := (World.cells?_some hcs).2.2 j hjlt
      rw [hj] at this
      rw [← this]
      congr 1
      unfold Addr.add
      by_cases e1 : i * es = 0
      · rw [if_pos e1]; simp [e1]
      · rw [if_neg e1, if_neg (by omega)]
        by_cases e2 : j = 0
        · simp [e2]
        · rw [if_neg e2]; simp [Nat.add_assoc]
    have hch : ∃ l : List α, l.length = len ∧ ∀ i d, l[i]? = some d → (∀ y, elems[i]? = some y → q d y.1) ∧ ∀ j v, (F d)[j]? = some v → w.cell? (a.add (i * es + j)) = some v := by
      clear hel' hlen hsp hns hl h
      induction len with
      | zero => exact ⟨[], rfl, by simp⟩
      | succ k ih =>
        obtain ⟨l, hl1, hl2⟩ := ih (fun i hi => each i (by omega))
        obtain ⟨d, hd1, hd2⟩ := each k (by omega)
        refine ⟨l ++ [d], by simp [hl1], fun i d' hi => ?_⟩
        by_cases hik : i < k
        · rw [List.getElem?_append_left (by omega)] at hi; exact hl2 i d' hi
        · rw [List.getElem?_append_right (by omega)] at hi
          have : i = k := by have := (List.getElem?_eq_some_iff.1 hi).1; simp at this; omega
          subst this
          rw [hl1, Nat.sub_self] at hi
          simp at hi
          subst hi
          exact ⟨hd1, hd2⟩
    obtain ⟨l, hl1, hl2⟩ := hch
    refine ⟨_, l, rfl, ?_, .inr ⟨_, _, rfl, by simp [hlen, hl1], fun i d y hi hy => ?_⟩⟩
    · refine cells_open (by rw [List.length_map, hl1]) hl hm (by simp) hes ?_ ?_
      · intro c hc
        obtain ⟨d, hd, rfl⟩ := List.mem_map.1 hc
        exact hF d
      · intro x hx i c hi j v hj
        cases hx
        simp only [List.getElem?_map, Option.map_eq_some_iff] at hi
        obtain ⟨d, hd, rfl⟩ := hi
        exact (hl2 i d hd).2 j v hj
    · rw [List.getElem?_map, Option.map_eq_some_iff] at hy
      obtain ⟨z, hz, rfl⟩ := hy
      exact (hl2 i d hi).1 z hz
theorem len_bulk {α : Type} : ∀ (l : List α) (ys : List (DataW H)), ys.length = l.length → (∀ y : DataW H, 1 ≤ Rows.uptoBulk y) → l.length ≤ Rows.uptoBulkAll ys
  | [], _, _, _ => by simp
  | a :: l, y :: ys, h, h1 => by have := len_bulk l ys (by simpa using h) h1; have := h1 y; simp only [List.length_cons, Rows.uptoBulkAll]; omega
theorem one_le (d : DataW H) : 1 ≤ Rows.uptoBulk d := by
  cases d with
  | lit l => cases l <;> simp [Rows.uptoBulk]
  | nil => simp [Rows.uptoBulk]
  | ptr d => simp [Rows.uptoBulk]
  | slice e r => simp [Rows.uptoBulk]
  | agg p => simp [Rows.uptoBulk]
  | iface t d => simp [Rows.uptoBulk]
  | map e => simp [Rows.uptoBulk]
  | held x => simp [Rows.uptoBulk]
theorem mem_bulk {d : DataW H} : ∀ {l : List (DataW H)}, d ∈ l → Rows.uptoBulk d ≤ Rows.uptoBulkAll l
  | y :: l, h => by
    simp only [Rows.uptoBulkAll]
    rcases List.mem_cons.1 h with rfl | h
    · omega
    · have := mem_bulk h; omega
theorem nodesL_bulk {G : Type} : ∀ (l : List (S_api_TExpr × G)) (ys : List (DataW H)), ys.length = l.length → (∀ (i : Nat) (a : S_api_TExpr × G) (y : DataW H), l[i]? = some a → ys[i]? = some y → a.1.nodes ≤ Rows.uptoBulk y) → nodesL (l.map (·.1)) ≤ Rows.uptoBulkAll ys
  | [], _, _, _ => by simp [nodesL]
  | a :: l, y :: ys, h, hq => by
    have h1 := nodesL_bulk l ys (by simpa using h) (fun i b z hb hz => hq (i + 1) b z (by simpa using hb) (by simpa using hz))
    have h2 := hq 0 a y rfl rfl
    simp only [List.map_cons, nodesL, Rows.uptoBulkAll]; omega
theorem nodesB_bulk {G : Type} : ∀ (l : List (S_api_TStmt × G)) (ys : List (DataW H)), ys.length = l.length → (∀ (i : Nat) (a : S_api_TStmt × G) (y : DataW H), l[i]? = some a → ys[i]? = some y → a.1.nodes ≤ Rows.uptoBulk y) → nodesB (l.map (·.1)) ≤ Rows.uptoBulkAll ys
  | [], _, _, _ => by simp [nodesB]
  | a :: l, y :: ys, h, hq => by
    have h1 := nodesB_bulk l ys (by simpa using h) (fun i b z hb hz => hq (i + 1) b z (by simpa using hb) (by simpa using hz))
    have h2 := hq 0 a y rfl rfl
    simp only [List.map_cons, nodesB, Rows.uptoBulkAll]; omega
end
end Go.Proofs.Ytgjdaamkfpbgpaa
namespace Go.Proofs.Ytgjdaamkfpbgpaa
open Go.Abs Go.Sem Go.ChangeShapes Go.RowKit
set_option linter.unusedVariables false
set_option maxRecDepth 100000

section
variable {H : Type} {enc : TypeId × Value → H} {w : World} {base : Nat} {sp : Nat → Bool} {held : Bool}
abbrev QE (w : World) (p : S_api_TExpr × Value) (d : DataW H) : Prop := p.1.nodes ≤ Rows.uptoBulk d ∧ ∀ k, HsP (NC_api_TExpr_48.S p.1 p.2) w noO k
abbrev QS (w : World) (p : S_api_TStmt × (Value × Value × Value)) (d : DataW H) : Prop := p.1.nodes ≤ Rows.uptoBulk d ∧ ∀ k, HsP (NC_api_TStmt_50.S p.1 p.2) w noO k
theorem argsE {fuel : Nat} (ih : ∀ m, m < fuel → ∀ (cs : List Value) (x : DataW H × List MemPlace), DataW.trod enc Try.prog w base sp held m 48 cs = some x → ∃ p, cs = NC_api_TExpr_48.F p.1 p.2 ∧ QE w p x.1)
    {cs : List Value} {x : DataW H × List MemPlace} (h : DataW.trod enc Try.prog w base sp held fuel 46 cs = some x) :
    ∃ (v : Value) (l : List S_api_TExpr), cs = [v] ∧ nodesL l + 1 ≤ Rows.uptoBulk x.1 ∧ ∀ k, (nro v NC_api_TExpr_48 l).p w noO k := by
  obtain ⟨v, lg, e, s, b⟩ := opn_sliceQ (α := S_api_TExpr × Value) (F := fun p => NC_api_TExpr_48.F p.1 p.2) (q := QE w) (es := 6) Try.underlying46 (by kernel_rfl) (by decide) (fun _ => rfl) ih h
  refine ⟨v, lg.map (·.1), e, ?_, fun k => ⟨⟨lg, rfl, s, fun p hp => ?_⟩, fun q => by cases q⟩⟩
  · rcases b with ⟨b1, rfl⟩ | ⟨ys, rs, b1, b2, b3⟩
    · rw [b1]; simp [nodesL, Rows.uptoBulk]
    · have := nodesL_bulk lg ys b2 (fun i a y hi hy => (b3 i a y hi hy).1)
      rw [b1]; simp only [Rows.uptoBulk]; omega
  · rcases b with ⟨b1, rfl⟩ | ⟨ys, rs, b1, b2, b3⟩
    · cases hp
    · obtain ⟨i, hi⟩ := List.getElem?_of_mem hp
      have hlt := (List.getElem?_eq_some_iff.1 hi).1
      exact (b3 i p _ hi (List.getElem?_eq_getElem (by rw [b2]; exact hlt))).2 k
theorem exprAt : ∀ (fuel : Nat) (cs : List Value) (x : DataW H × List MemPlace), DataW.trod enc Try.prog w base sp held fuel 48 cs = some x → ∃ p, cs = NC_api_TExpr_48.F p.1 p.2 ∧ QE w p x.1 := by
  intro fuel
  induction fuel using Nat.strongRecOn with
  | _ fuel ih =>
  intro cs x h
  obtain ⟨xs, n, hn, hx, hl, hlen, hf⟩ := DataW.trod_struct Try.underlying48 h
  have hl' : cs.length = 6 := hl.trans (by kernel_rfl)
  have hx6 : xs.length = 6 := hlen
  have k3 : Try.prog.cellsOf 3 = 1 := by kernel_rfl
  have k9 : Try.prog.cellsOf 9 = 1 := by kernel_rfl
  have k46 : Try.prog.cellsOf 46 = 1 := by kernel_rfl
  match cs, hl' with
  | [c0, c1, c2, c3, c4, c5], _ =>
    have f0 := hf 0 _ rfl
    have f1 := hf 1 _ rfl
    have f2 := hf 2 _ rfl
    have f3 := hf 3 _ rfl
    have f4 := hf 4 _ rfl
    have f5 := hf 5 _ rfl
    rw [List.getElem?_eq_getElem (show 0 < xs.length by omega)] at f0
    rw [List.getElem?_eq_getElem (show 1 < xs.length by omega)] at f1
    rw [List.getElem?_eq_getElem (show 2 < xs.length by omega)] at f2
    rw [List.getElem?_eq_getElem (show 3 < xs.length by omega)] at f3
    rw [List.getElem?_eq_getElem (show 4 < xs.length by omega)] at f4
    rw [List.getElem?_eq_getElem (show 5 < xs.length by omega)] at f5
    obtain ⟨a0, e0, w0⟩ := (opn_int Try.underlying3) _ _ _ f0
    obtain ⟨a1, e1, w1⟩ := (opn_int Try.underlying3) _ _ _ f1
    obtain ⟨a2, e2, w2⟩ := (opn_int Try.underlying3) _ _ _ f2
    obtain ⟨a3, e3, w3⟩ := (opn_int Try.underlying3) _ _ _ f3
    obtain ⟨a4, e4, w4⟩ := (opn_str Try.underlying9) _ _ _ f4
    obtain ⟨v5, l5, e5, b5, s5⟩ := argsE (fun m hm => ih m (by omega)) f5
    simp [k3, eInt] at e0 e1 e2 e3
    simp [k9, eStr] at e4
    simp [k46] at e5
    subst e0 e1 e2 e3 e4 e5
    refine ⟨(⟨a0, a1, a2, a3, a4, l5⟩, c5), rfl, ?_, fun k h hh => ?_⟩
    · have hm : (xs[5]'(by omega)).1 ∈ xs.map (·.1) := List.mem_map.2 ⟨_, List.getElem_mem _, rfl⟩
      have := mem_bulk hm
      rw [hx]
      simp only [S_api_TExpr.nodes, Rows.uptoBulk]; omega
    · replace hh := (congrArg (fun L => h ∈ L) (TC.S_eq (T := T_api_TExpr_48) (⟨a0, a1, a2, a3, a4, l5⟩ : S_api_TExpr) c5)).mp hh
      simp only [T_api_TExpr_48, List.nil_append, List.map_cons, List.map_nil, List.mem_cons, List.not_mem_nil, or_false] at hh
      subst hh
      exact s5 k
theorem bodyAt {fuel : Nat} (ih : ∀ m, m < fuel → ∀ (cs : List Value) (x : DataW H × List MemPlace), DataW.trod enc Try.prog w base sp held m 50 cs = some x → ∃ p, cs = NC_api_TStmt_50.F p.1 p.2 ∧ QS w p x.1)
    {cs : List Value} {x : DataW H × List MemPlace} (h : DataW.trod enc Try.prog w base sp held fuel 23 cs = some x) :
    ∃ (v : Value) (l : List S_api_TStmt), cs = [v] ∧ nodesB l + 1 ≤ Rows.uptoBulk x.1 ∧ ∀ k, (nro v NC_api_TStmt_50 l).p w noO k := by
  obtain ⟨v, lg, e, s, b⟩ := opn_sliceQ (α := S_api_TStmt × (Value × Value × Value)) (F := fun p => NC_api_TStmt_50.F p.1 p.2) (q := QS w) (es := 12) Try.underlying23 (by kernel_rfl) (by decide) (fun _ => rfl) ih h
  refine ⟨v, lg.map (·.1), e, ?_, fun k => ⟨⟨lg, rfl, s, fun p hp => ?_⟩, fun q => by cases q⟩⟩
  · rcases b with ⟨b1, rfl⟩ | ⟨ys, rs, b1, b2, b3⟩
    · rw [b1]; simp [nodesB, Rows.uptoBulk]
    · have := nodesB_bulk lg ys b2 (fun i a y hi hy => (b3 i a y hi hy).1)
      rw [b1]; simp only [Rows.uptoBulk]; omega
  · rcases b with ⟨b1, rfl⟩ | ⟨ys, rs, b1, b2, b3⟩
    · cases hp
    · obtain ⟨i, hi⟩ := List.getElem?_of_mem hp
      have hlt := (List.getElem?_eq_some_iff.1 hi).1
      exact (b3 i p _ hi (List.getElem?_eq_getElem (by rw [b2]; exact hlt))).2 k
theorem bulk3 (xs : List (DataW H)) (i j k : Nat) (hi : i < j) (hj : j < k) (hk : k < xs.length) : Rows.uptoBulk (xs[i]'(by omega)) + Rows.uptoBulk (xs[j]'(by omega)) + Rows.uptoBulk xs[k] ≤ Rows.uptoBulkAll xs := by
  have one : ∀ (xs : List (DataW H)) (i : Nat) (h : i < xs.length), Rows.uptoBulk xs[i] ≤ Rows.uptoBulkAll xs := fun xs i h => mem_bulk (List.getElem_mem h)
  have two : ∀ (xs : List (DataW H)) (i j : Nat) (hi : i < j) (h : j < xs.length), Rows.uptoBulk (xs[i]'(by omega)) + Rows.uptoBulk xs[j] ≤ Rows.uptoBulkAll xs := by
    intro xs
    induction xs with
    | nil => intro i j hi h; simp at h
    | cons x r ih =>
      intro i j hi h
      cases j with
      | zero => omega
      | succ j =>
        cases i with
        | zero => have := one r j (by simpa using h); simp only [List.getElem_cons_zero, List.getElem_cons_succ, Rows.uptoBulkAll]; omega
        | succ i => have := ih i j (by omega) (by simpa using h); simp only [List.getElem_cons_succ, Rows.uptoBulkAll]; omega
  induction xs generalizing i j k with
  | nil => simp at hk
  | cons x r ih =>
    obtain ⟨j, rfl⟩ : ∃ j', j = j' + 1 := ⟨j - 1, by omega⟩
    obtain ⟨k, rfl⟩ : ∃ k', k = k' + 1 := ⟨k - 1, by omega⟩
    cases i with
    | zero => have := two r j k (by omega) (by simpa using hk); simp only [List.getElem_cons_zero, List.getElem_cons_succ, Rows.uptoBulkAll]; omega
    | succ i =>
      have := ih i j k (by omega) (by omega) (by simpa using hk)
      simp only [List.getElem_cons_succ, Rows.uptoBulkAll]
      exact Nat.le_trans (this two) (Nat.le_add_left _ _)
theorem stmtAt : ∀ (fuel : Nat) (cs : List Value) (x : DataW H × List MemPlace), DataW.trod enc Try.prog w base sp held fuel 50 cs = some x → ∃ p, cs = NC_api_TStmt_50.F p.1 p.2 ∧ QS w p x.1 := by
  intro fuel
  induction fuel using Nat.strongRecOn with
  | _ fuel ih =>
  intro cs x h
  obtain ⟨xs, n, hn, hx, hl, hlen, hf⟩ := DataW.trod_struct Try.underlying50 h
  have hl' : cs.length = 12 := hl.trans (by kernel_rfl)
  have hx7 : xs.length = 7 := hlen
  have k3 : Try.prog.cellsOf 3 = 1 := by kernel_rfl
  have k9 : Try.prog.cellsOf 9 = 1 := by kernel_rfl
  have k23 : Try.prog.cellsOf 23 = 1 := by kernel_rfl
  have k48 : Try.prog.cellsOf 48 = 6 := by kernel_rfl
  match cs, hl' with
  | [c0, c1, c2, c3, x0, x1, x2, x3, x4, x5, c5, c6], _ =>
    have f0 := hf 0 _ rfl
    have f1 := hf 1 _ rfl
    have f2 := hf 2 _ rfl
    have f3 := hf 3 _ rfl
    have f4 := hf 4 _ rfl
    have f5 := hf 5 _ rfl
    have f6 := hf 6 _ rfl
    rw [List.getElem?_eq_getElem (show 0 < xs.length by omega)] at f0
    rw [List.getElem?_eq_getElem (show 1 < xs.length by omega)] at f1
    rw [List.getElem?_eq_getElem (show 2 < xs.length by omega)] at f2
    rw [List.getElem?_eq_getElem (show 3 < xs.length by omega)] at f3
    rw [List.getElem?_eq_getElem (show 4 < xs.length by omega)] at f4
    rw [List.getElem?_eq_getElem (show 5 < xs.length by omega)] at f5
    rw [List.getElem?_eq_getElem (show 6 < xs.length by omega)] at f6
    obtain ⟨a0, e0, w0⟩ := (opn_int Try.underlying3) _ _ _ f0
    obtain ⟨a1, e1, w1⟩ := (opn_int Try.underlying3) _ _ _ f1
    obtain ⟨a2, e2, w2⟩ := (opn_int Try.underlying3) _ _ _ f2
    obtain ⟨a3, e3, w3⟩ := (opn_str Try.underlying9) _ _ _ f3
    obtain ⟨⟨a4, g4⟩, e4, b4, s4⟩ := exprAt _ _ _ f4
    obtain ⟨v5, l5, e5, b5, s5⟩ := bodyAt (fun m hm => ih m (by omega)) f5
    obtain ⟨v6, l6, e6, b6, s6⟩ := bodyAt (fun m hm => ih m (by omega)) f6
    simp [k3, eInt] at e0 e1 e2
    simp [k9, eStr] at e3
    simp [k48] at e4
    simp [k23] at e5 e6
    subst e0 e1 e2 e3 e5 e6
    have e4' : [x0, x1, x2, x3, x4, x5] = [.int .i64 a4.Op, .int .i64 a4.Type_, .int .i64 a4.N, .int .i64 a4.Slot, .string (bs a4.S), g4] := e4
    simp only [List.cons.injEq, and_true] at e4'
    obtain ⟨rfl, rfl, rfl, rfl, rfl, rfl⟩ := e4'
    refine ⟨(⟨a0, a1, a2, a3, a4, l5, l6⟩, (x5, c5, c6)), rfl, ?_, fun k h hh => ?_⟩
    · have := bulk3 (xs.map (·.1)) 4 5 6 (by omega) (by omega) (by simp; omega)
      simp only [List.getElem_map] at this
      rw [hx]
      simp only [S_api_TStmt.nodes, Rows.uptoBulk] at b4 ⊢; omega
    · replace hh := (congrArg (fun L => h ∈ L) (TC.S_eq (T := T_api_TStmt_50) (⟨a0, a1, a2, a3, a4, l5, l6⟩ : S_api_TStmt) (x5, c5, c6))).mp hh
      simp only [T_api_TStmt_50, List.map_cons, List.map_nil, List.cons_append, List.nil_append, List.mem_cons, List.not_mem_nil, or_false] at hh
      rcases hh with rfl | rfl | rfl
      · refine s4 k _ ?_
        refine (congrArg (fun L => nro x5 NC_api_TExpr_48 a4.Args ∈ L) (TC.S_eq (T := T_api_TExpr_48) a4 x5)).mpr ?_
        exact List.mem_singleton.2 rfl
      · exact s5 k
      · exact s6 k
/-- a program, opened -/
theorem progAt {fuel : Nat} {cs : List Value} {x : DataW H × List MemPlace} (h : DataW.trod enc Try.prog w base sp held fuel 25 cs = some x) (hb : Rows.uptoBulk x.1 ≤ 1048576) :
    ∃ (p : S_api_Program) (v1 v2 : Value), cs = [.string (bs p.Name), v1, v2] ∧ nodesB p.Code ≤ 1048576 ∧ p.Effects.length ≤ 1048576 ∧ p.Name.length ≤ 1048576 ∧ (∀ e ∈ p.Effects, wfI .i64 e) ∧
      (∀ k, (ro v1 1 (p.Effects.map (eInt .i64))).p w noO k) ∧ ∀ k, (nro v2 NC_api_TStmt_50 p.Code).p w noO k := by
  obtain ⟨xs, n, hn, hx, hl, hlen, hf⟩ := DataW.trod_struct Try.underlying25 h
  have hl' : cs.length = 3 := hl.trans (by kernel_rfl)
  have hx3 : xs.length = 3 := hlen
  have k9 : Try.prog.cellsOf 9 = 1 := by kernel_rfl
  have k22 : Try.prog.cellsOf 22 = 1 := by kernel_rfl
  have k23 : Try.prog.cellsOf 23 = 1 := by kernel_rfl
  match cs, hl' with
  | [c0, c1, c2], _ =>
    have f0 := hf 0 _ rfl
    have f1 := hf 1 _ rfl
    have f2 := hf 2 _ rfl
    rw [List.getElem?_eq_getElem (show 0 < xs.length by omega)] at f0
    rw [List.getElem?_eq_getElem (show 1 < xs.length by omega)] at f1
    rw [List.getElem?_eq_getElem (show 2 < xs.length by omega)] at f2
    obtain ⟨q0, e0, y0, w0⟩ := DataW.trod_string Try.underlying9 f0
    obtain ⟨v1, l1, e1, s1, b1⟩ := opn_sliceQ (F := eInt .i64) (q := fun a _ => wfI .i64 a) (es := 1) Try.underlying22 (by kernel_rfl) (by decide) (fun _ => rfl) (fun m hm cs x hh => (opn_int Try.underlying3) _ _ _ hh) f1
    obtain ⟨v2, l2, e2, b2, s2⟩ := bodyAt (fun m hm => stmtAt m) f2
    simp [k9] at e0
    simp [k22] at e1
    simp [k23] at e2
    subst e0 e1 e2
    have hbb := bulk3 (xs.map (·.1)) 0 1 2 (by omega) (by omega) (by simp; omega)
    simp only [List.getElem_map] at hbb
    rw [hx] at hb
    simp only [Rows.uptoBulk] at hb
    rw [y0] at hbb
    simp only [Rows.uptoBulk] at hbb
    refine ⟨⟨q0.data.toList, l1, l2⟩, c1, c2, rfl, by simp only; omega, ?_, by simp only; omega, ?_, fun _ => s1, s2⟩
    · rcases b1 with ⟨_, rfl⟩ | ⟨ys, rs, d1, d2, _⟩
      · simp
      · have := len_bulk l1 ys d2 one_le
        rw [d1] at hbb
        simp only [Rows.uptoBulk] at hbb ⊢; omega
    · intro e he
      rcases b1 with ⟨_, rfl⟩ | ⟨ys, rs, d1, d2, d3⟩
      · cases he
      · obtain ⟨i, hi⟩ := List.getElem?_of_mem he
        have hlt := (List.getElem?_eq_some_iff.1 hi).1
        exact d3 i e _ hi (List.getElem?_eq_getElem (by rw [d2]; exact hlt))
end
end Go.Proofs.Ytgjdaamkfpbgpaa
