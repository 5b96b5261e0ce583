/-
  Texts that stand side by side: G3d, Pe, Pa, Pb, Pn, Po, Pp, WireNum, WireSpec, WireList, WireSane, WireTrip, WireCanon, Pf, Pg, Ph, Pi, Pj, Pk, Pl, Pm, Pq, Pr.
-/
import Derived.Test.YtgjdaamkfpbgpaaG3c
import Derived.Test.YtgjdaamkfpbgpaaM1
import Derived.KernelRfl
import Derived.Test.YtgjdaamkfpbgpaaM0
import Derived.Test.YtgjdaamkfpbgpaaFh
namespace Go.Proofs.Ytgjdaamkfpbgpaa
open Go.Abs
set_option linter.unusedVariables false
set_option linter.unusedSimpArgs false
set_option maxRecDepth 20000
set_option maxHeartbeats 4000000

end Go.Proofs.Ytgjdaamkfpbgpaa
namespace Go.Proofs.Ytgjdaamkfpbgpaa
open Go.Abs
set_option linter.unusedVariables false
set_option linter.unusedSimpArgs false

theorem sane (n : Nat) : law28_sanity (n + 200) = some true := by kernel_rfl
theorem w_succ {k N : Nat} (h : k ≤ N) (hN : N ≤ 1073741824) : IntKind.i64.wrap ((k : Int) + 1) = ((k + 1 : Nat) : Int) := by rw [w64 (by omega) (by omega)]; try omega
theorem ints_same (n : Nat) (a : List Int) (h : a.length < n) (hl : a.length ≤ 1073741824) : ref28_ints n a a = some true := by
  unfold ref28_ints
  simp only [ne_eq, not_true_eq_false, decide_false, cond_false]
  have h1 : iter (ref28_ints_L1 a a) n 0 = some (.go ()) := iter_allgo (step := ref28_ints_L1 a a) a.length (.go ()) (fun i hi => by
    unfold ref28_ints_L1
    simp only [show decide ((i : Int) < (a.length : Int)) = true by simp; omega, cond_true]
    rw [idx_get' hi, idx_get' hi, w_succ (N := a.length) (by omega) (by omega)]
    simp) (by unfold ref28_ints_L1; simp) n h
  rw [h1]; rfl
theorem same_v1 (n : Nat) (a : S_api_Module) (h1 : a.Effects.length < n) (h2 : a.Code.length < n) (h3 : a.Effects.length ≤ 1073741824) (h4 : a.Code.length ≤ 1073741824) : ref28_Same_v1 n a a = some true := by
  unfold ref28_Same_v1
  simp only [decide_true, Bool.not_true, cond_false, ints_same n _ h1 h3, obind, Option.bind_some, bindJ_go, ne_eq, not_true_eq_false, decide_false, Bool.or_self]
  have h5 : iter (ref28_Same_v1_L1 a a) n 0 = some (.go ()) := iter_allgo (step := ref28_Same_v1_L1 a a) a.Code.length (.go ()) (fun i hi => by
    unfold ref28_Same_v1_L1
    simp only [show decide ((i : Int) < (a.Code.length : Int)) = true by simp; omega, cond_true]
    rw [idx_get' hi, idx_get' hi, w_succ (N := a.Code.length) (by omega) (by omega)]
    simp) (by unfold ref28_Same_v1_L1; simp) n h2
  rw [h5]; rfl
end Go.Proofs.Ytgjdaamkfpbgpaa
namespace Go.Proofs.Ytgjdaamkfpbgpaa
open Go.Abs
set_option linter.unusedVariables false
set_option linter.unusedSimpArgs false

mutual
def S_api_TExpr.nodes : S_api_TExpr → Nat
  | ⟨_, _, _, _, _, l⟩ => 1 + nodesL l
def nodesL : List S_api_TExpr → Nat
  | [] => 0
  | x :: r => x.nodes + nodesL r
end
mutual
def S_api_TStmt.nodes : S_api_TStmt → Nat
  | ⟨_, _, _, _, x, b, e⟩ => 1 + x.nodes + nodesB b + nodesB e
def nodesB : List S_api_TStmt → Nat
  | [] => 0
  | x :: r => x.nodes + nodesB r
end
theorem nodes_eq (x : S_api_TExpr) : x.nodes = 1 + nodesL x.Args := by cases x; simp [S_api_TExpr.nodes]
theorem nodesS_eq (x : S_api_TStmt) : x.nodes = 1 + x.X.nodes + nodesB x.Body + nodesB x.Else := by cases x; simp [S_api_TStmt.nodes]
theorem nodesL_len : ∀ (l : List S_api_TExpr), l.length ≤ nodesL l
  | [] => by simp [nodesL]
  | x :: r => by have := nodesL_len r; have := nodes_eq x; simp only [nodesL, List.length_cons]; omega
theorem nodesB_len : ∀ (l : List S_api_TStmt), l.length ≤ nodesB l
  | [] => by simp [nodesB]
  | x :: r => by have := nodesB_len r; have := nodesS_eq x; simp only [nodesB, List.length_cons]; omega
theorem nodesL_get : ∀ (l : List S_api_TExpr) (i : Nat) (x : S_api_TExpr), l[i]? = some x → x.nodes ≤ nodesL l
  | y :: r, 0, x, h => by simp at h; subst h; simp [nodesL]
  | y :: r, i + 1, x, h => by have := nodesL_get r i x (by simpa using h); simp only [nodesL]; omega
theorem nodesB_get : ∀ (l : List S_api_TStmt) (i : Nat) (x : S_api_TStmt), l[i]? = some x → x.nodes ≤ nodesB l
  | y :: r, 0, x, h => by simp at h; subst h; simp [nodesB]
  | y :: r, i + 1, x, h => by have := nodesB_get r i x (by simpa using h); simp only [nodesB]; omega

mutual
def cE : S_api_TExpr → List S_api_Instr
  | ⟨op, _, n, slot, s, l⟩ => cEL l ++ [⟨op, if op = 23 then (l.length : Int) else if op = 3 then slot else if op = 1 then n else 0, if op = 2 ∨ op = 6 then s else []⟩]
def cEL : List S_api_TExpr → List S_api_Instr
  | [] => []
  | x :: r => cE x ++ cEL r
end
theorem cE_eq (x : S_api_TExpr) : cE x = cEL x.Args ++ [⟨x.Op, if x.Op = 23 then (x.Args.length : Int) else if x.Op = 3 then x.Slot else if x.Op = 1 then x.N else 0, if x.Op = 2 ∨ x.Op = 6 then x.S else []⟩] := by cases x; simp [cE]
mutual
theorem cE_len : ∀ (x : S_api_TExpr), (cE x).length = x.nodes
  | ⟨op, _, n, slot, s, l⟩ => by simp [cE, S_api_TExpr.nodes, cEL_len l]; omega
theorem cEL_len : ∀ (l : List S_api_TExpr), (cEL l).length = nodesL l
  | [] => rfl
  | x :: r => by simp [cEL, nodesL, cE_len x, cEL_len r]
end
def lastI (s : S_api_TStmt) : S_api_Instr :=
  if s.Kind = 1 ∨ s.Kind = 2 then ⟨31, s.Slot, []⟩ else if s.Kind = 3 then ⟨32, 0, s.Name⟩ else if s.Kind = 4 then ⟨33, 0, []⟩ else if s.Kind = 7 then ⟨34, 0, []⟩ else if s.Kind = 8 then ⟨35, 0, []⟩ else ⟨36, 0, []⟩
mutual
def cS : S_api_TStmt → Nat → Int → List S_api_Instr
  | ⟨kind, slot, n, name, x, b, e⟩, pos, d =>
    if kind = 6 then
      let k := cB b (pos + 3) d
      [⟨30, 0, []⟩, ⟨39, n, []⟩, ⟨40, (pos + 5 + k.length : Nat), []⟩] ++ k ++ [⟨41, d, []⟩, ⟨37, (pos + 2 : Nat), []⟩]
    else if kind = 5 then
      let q := cE x
      let k := cB b (pos + 2 + q.length) d
      let j := cB e (pos + 4 + q.length + k.length) d
      [⟨30, 0, []⟩] ++ q ++ [⟨38, (pos + 4 + q.length + k.length : Nat), []⟩] ++ k ++ [⟨41, d, []⟩, ⟨37, (pos + 5 + q.length + k.length + j.length : Nat), []⟩] ++ j ++ [⟨41, d, []⟩]
    else [⟨30, 0, []⟩] ++ cE x ++ [lastI ⟨kind, slot, n, name, x, b, e⟩]
def cB : List S_api_TStmt → Nat → Int → List S_api_Instr
  | [], _, _ => []
  | s :: r, pos, d => cS s pos d ++ cB r (pos + (cS s pos d).length) (if s.Kind = 1 then d + 1 else d)
end
mutual
theorem cS_len : ∀ (s : S_api_TStmt) (pos : Nat) (d : Int), (cS s pos d).length ≤ 7 * s.nodes
  | ⟨kind, slot, n, name, x, b, e⟩, pos, d => by
    have hx := cE_len x
    have hn := nodes_eq x
    have hb := cB_len b (pos + 3) d
    have hb2 := cB_len b (pos + 2 + (cE x).length) d
    have he := cB_len e (pos + 4 + (cE x).length + (cB b (pos + 2 + (cE x).length) d).length) d
    simp only [cS, S_api_TStmt.nodes]
    split
    · simp; omega
    · split
      · simp; omega
      · simp; omega
theorem cB_len : ∀ (l : List S_api_TStmt) (pos : Nat) (d : Int), (cB l pos d).length ≤ 7 * nodesB l
  | [], _, _ => by simp [cB]
  | s :: r, pos, d => by
    have h1 := cS_len s pos d
    have h2 := cB_len r (pos + (cS s pos d).length) (if s.Kind = 1 then d + 1 else d)
    simp only [cB, nodesB, List.length_append]; omega
end
/-- a loop along a list with places -/
theorem iter_at {α T R : Type} {step : T → Option (Lp T R)} {l : List α} (mk : Nat → T) (r : R)
    (hgo : ∀ (i : Nat) x, l[i]? = some x → step (mk i) = some (.go (mk (i + 1)))) (hend : step (mk l.length) = some (.stop r)) :
    ∀ (n i : Nat), i ≤ l.length → l.length - i < n → iter step n (mk i) = some r
  | 0, i, _, h => by omega
  | n + 1, i, hle, h => by
    by_cases e : i = l.length
    · subst e; exact iter_stop hend
    · have hlt : i < l.length := by omega
      rw [iter_go (hgo i _ (List.getElem?_eq_getElem hlt))]
      exact iter_at mk r hgo hend n (i + 1) (by omega) (by omega)
theorem cEL_take : ∀ (l : List S_api_TExpr) (i : Nat) (x : S_api_TExpr), l[i]? = some x → cEL (l.take (i + 1)) = cEL (l.take i) ++ cE x
  | y :: r, 0, x, h => by simp at h; subst h; simp [cEL]
  | y :: r, i + 1, x, h => by simp only [List.take_succ_cons, cEL]; rw [cEL_take r i x (by simpa using h)]; simp
theorem nodesL_take : ∀ (l : List S_api_TExpr) (i : Nat), nodesL (l.take i) ≤ nodesL l
  | [], i => by simp [nodesL]
  | y :: r, 0 => by simp [nodesL]
  | y :: r, i + 1 => by simp only [List.take_succ_cons, nodesL]; have := nodesL_take r i; omega
theorem nodesL_takeS : ∀ (l : List S_api_TExpr) (i : Nat) (x : S_api_TExpr), l[i]? = some x → nodesL (l.take i) + x.nodes ≤ nodesL l
  | y :: r, 0, x, h => by simp at h; subst h; simp [nodesL]
  | y :: r, i + 1, x, h => by simp only [List.take_succ_cons, nodesL]; have := nodesL_takeS r i x (by simpa using h); omega
theorem i64_succ {i N : Nat} (h : i ≤ N) (hN : N ≤ 1073741824) : IntKind.i64.wrap ((i : Int) + 1) = ((i + 1 : Nat) : Int) := by rw [w64 (by omega) (by omega)]; try omega

theorem put_ok {out : List S_api_Instr} {op a : Int} {s : List UInt8} (h : out.length < 1073741824) : weirgate_compile_maker_put_41 ⟨out⟩ op a s = some ((out.length : Int), ⟨out ++ [⟨op, a, s⟩]⟩) := by
  unfold weirgate_compile_maker_put_41
  rw [need_pos (by simp; omega)]
  rw [w64 (by simp) (by simp; omega)]
  simp
theorem cexpr : ∀ (n : Nat) (x : S_api_TExpr) (out : List S_api_Instr), x.nodes < n → out.length + x.nodes < 1073741824 → weirgate_compile_maker_expr_42 n ⟨out⟩ x = some ⟨out ++ cE x⟩
  | 0, x, out, h, _ => by omega
  | n + 1, x, out, h, hl => by
    have hn := nodes_eq x
    have hlen := nodesL_len x.Args
    show weirgate_compile_maker_expr_42_body n (weirgate_compile_maker_expr_42 n) ⟨out⟩ x = _
    unfold weirgate_compile_maker_expr_42_body
    have hloop : iter (weirgate_compile_maker_expr_42_L1 x (weirgate_compile_maker_expr_42 n)) n (0, out) = some (.go (out ++ cEL x.Args)) := by
      have := iter_at (l := x.Args) (step := weirgate_compile_maker_expr_42_L1 x (weirgate_compile_maker_expr_42 n)) (fun i => ((i : Int), out ++ cEL (x.Args.take i))) (.go (out ++ cEL x.Args)) (fun i y hy => by
          have hlt := (List.getElem?_eq_some_iff.1 hy).1
          have hny := nodesL_takeS _ _ _ hy
          have hcl := cEL_len (x.Args.take i)
          unfold weirgate_compile_maker_expr_42_L1
          simp only [show decide ((i : Int) < (x.Args.length : Int)) = true by simp; omega, cond_true]
          rw [idx_get hy, cexpr n y _ (by omega) (by simp [hcl]; omega)]
          simp only [obind, Option.bind_some]
          rw [i64_succ (N := x.Args.length) (by omega) (by omega), cEL_take _ _ _ hy]; simp) (by
          unfold weirgate_compile_maker_expr_42_L1; simp) n 0 (by omega) (by omega)
      simpa [cEL] using this
    have hcl := cEL_len x.Args
    have hp : ∀ (a : Int) (s : List UInt8), weirgate_compile_maker_put_41 ⟨out ++ cEL x.Args⟩ x.Op a s = some (((out ++ cEL x.Args).length : Int), ⟨(out ++ cEL x.Args) ++ [⟨x.Op, a, s⟩]⟩) := fun a s => put_ok (by simp [hcl]; omega)
    simp only [hloop, bindJ_go]
    rw [cE_eq]
    by_cases h1 : x.Op = 1
    · simp [h1, hp, obind] at *; simp [hp, h1]
    · by_cases h3 : x.Op = 3
      · simp [h3, hp, obind] at *; simp [hp, h3]
      · by_cases h2 : x.Op = 2
        · simp [h2, hp, obind] at *; simp [hp, h2]
        · by_cases h6 : x.Op = 6
          · simp [h6, hp, obind] at *; simp [hp, h6]
          · by_cases h23 : x.Op = 23
            · simp [h23, hp, obind] at *; simp [hp, h23]
            · simp [h1, h2, h3, h6, h23, hp, obind]
end Go.Proofs.Ytgjdaamkfpbgpaa
namespace Go.Proofs.Ytgjdaamkfpbgpaa
open Go.Abs
set_option linter.unusedVariables false
set_option linter.unusedSimpArgs false

mutual
def okS : S_api_TStmt → Prop
  | ⟨k, _, _, _, _, b, e⟩ => (1 ≤ k ∧ k ≤ 9) ∧ okB b ∧ okB e
def okB : List S_api_TStmt → Prop
  | [] => True
  | x :: r => okS x ∧ okB r
end
theorem okS_eq (x : S_api_TStmt) : okS x ↔ (1 ≤ x.Kind ∧ x.Kind ≤ 9) ∧ okB x.Body ∧ okB x.Else := by cases x; simp [okS]
theorem okB_get : ∀ (l : List S_api_TStmt) (i : Nat) (x : S_api_TStmt), okB l → l[i]? = some x → okS x
  | y :: r, 0, x, ho, h => by simp at h; subst h; exact ho.1
  | y :: r, i + 1, x, ho, h => okB_get r i x ho.2 (by simpa using h)
def dK : List S_api_TStmt → Int → Int
  | [], d => d
  | s :: r, d => dK r (if s.Kind = 1 then d + 1 else d)
theorem dK_take : ∀ (l : List S_api_TStmt) (i : Nat) (x : S_api_TStmt) (d : Int), l[i]? = some x → dK (l.take (i + 1)) d = if x.Kind = 1 then dK (l.take i) d + 1 else dK (l.take i) d
  | y :: r, 0, x, d, h => by simp at h; subst h; simp [dK]
  | y :: r, i + 1, x, d, h => by simp only [List.take_succ_cons, dK]; exact dK_take r i x _ (by simpa using h)
theorem dK_le : ∀ (l : List S_api_TStmt) (d : Int), d ≤ dK l d ∧ dK l d ≤ d + l.length
  | [], d => by simp [dK]
  | s :: r, d => by have := dK_le r (if s.Kind = 1 then d + 1 else d); simp only [dK, List.length_cons]; split at this <;> simp_all <;> omega
theorem cB_take : ∀ (l : List S_api_TStmt) (i : Nat) (x : S_api_TStmt) (pos : Nat) (d : Int), l[i]? = some x → cB (l.take (i + 1)) pos d = cB (l.take i) pos d ++ cS x (pos + (cB (l.take i) pos d).length) (dK (l.take i) d)
  | y :: r, 0, x, pos, d, h => by simp at h; subst h; simp [cB, dK]
  | y :: r, i + 1, x, pos, d, h => by
    simp only [List.take_succ_cons, cB, dK]
    rw [cB_take r i x _ _ (by simpa using h)]
    simp [Nat.add_assoc]
theorem nodesB_takeS : ∀ (l : List S_api_TStmt) (i : Nat) (x : S_api_TStmt), l[i]? = some x → nodesB (l.take i) + x.nodes ≤ nodesB l
  | y :: r, 0, x, h => by simp at h; subst h; simp [nodesB]
  | y :: r, i + 1, x, h => by simp only [List.take_succ_cons, nodesB]; have := nodesB_takeS r i x (by simpa using h); omega
theorem set_mid {α : Type} (a b : List α) (x y : α) : (a ++ x :: b).set a.length y = a ++ y :: b := by simp [List.set_append]
theorem get_mid {α : Type} (a b : List α) (x : α) : (a ++ x :: b)[a.length]? = some x := by simp
theorem cS6 (x : S_api_TStmt) (pos : Nat) (d : Int) (h : x.Kind = 6) : cS x pos d = [(S_api_Instr.mk 30 (0) []), (S_api_Instr.mk 39 (x.N) []), (S_api_Instr.mk 40 ((pos + 5 + (cB x.Body (pos + 3) d).length : Nat)) [])] ++ cB x.Body (pos + 3) d ++ [(S_api_Instr.mk 41 (d) []), (S_api_Instr.mk 37 ((pos + 2 : Nat)) [])] := by
  cases x; simp only at h; subst h; simp [cS]
theorem cS5 (x : S_api_TStmt) (pos : Nat) (d : Int) (h : x.Kind = 5) {q k j : List S_api_Instr} (hq : q = cE x.X) (hk : k = cB x.Body (pos + 2 + q.length) d) (hj : j = cB x.Else (pos + 4 + q.length + k.length) d) :
    cS x pos d = [(S_api_Instr.mk 30 (0) [])] ++ q ++ [(S_api_Instr.mk 38 ((pos + 4 + q.length + k.length : Nat)) [])] ++ k ++ [(S_api_Instr.mk 41 (d) []), (S_api_Instr.mk 37 ((pos + 5 + q.length + k.length + j.length : Nat)) [])] ++ j ++ [(S_api_Instr.mk 41 (d) [])] := by
  cases x; simp only at h; subst h; subst hj; subst hk; subst hq; simp [cS]
theorem cSo (x : S_api_TStmt) (pos : Nat) (d : Int) (h5 : x.Kind ≠ 5) (h6 : x.Kind ≠ 6) : cS x pos d = [(S_api_Instr.mk 30 (0) [])] ++ cE x.X ++ [lastI x] := by
  cases x; simp only at h5 h6; simp [cS, h5, h6]

section
variable {rec : S_compile_maker → List S_api_TStmt → Int → Option S_compile_maker}
theorem block60 {out k : List S_api_Instr} {l : List S_api_TStmt} {d : Int} (h : rec ⟨out⟩ l d = some ⟨out ++ k⟩) (hl : out.length + k.length < 1073741824) :
    weirgate_compile_maker_block_60 rec ⟨out⟩ l d = some ⟨out ++ k ++ [(S_api_Instr.mk 41 (d) [])]⟩ := by
  unfold weirgate_compile_maker_block_60
  simp only [h, obind, Option.bind_some]
  rw [put_ok (by simp; omega)]; rfl
theorem branch_ok {out k j : List S_api_Instr} {x : S_api_TStmt} {d : Int} (hb : rec ⟨out ++ [(S_api_Instr.mk 38 (0) [])]⟩ x.Body d = some ⟨(out ++ [(S_api_Instr.mk 38 (0) [])]) ++ k⟩)
    (he : rec ⟨out ++ [(S_api_Instr.mk 38 ((out.length + k.length + 3 : Nat)) [])] ++ k ++ [(S_api_Instr.mk 41 (d) []), (S_api_Instr.mk 37 (0) [])]⟩ x.Else d = some ⟨(out ++ [(S_api_Instr.mk 38 ((out.length + k.length + 3 : Nat)) [])] ++ k ++ [(S_api_Instr.mk 41 (d) []), (S_api_Instr.mk 37 (0) [])]) ++ j⟩)
    (hl : out.length + k.length + j.length + 6 < 1073741824) :
    weirgate_compile_maker_branch_39 rec ⟨out⟩ x d = some ⟨out ++ [(S_api_Instr.mk 38 ((out.length + k.length + 3 : Nat)) [])] ++ k ++ [(S_api_Instr.mk 41 (d) []), (S_api_Instr.mk 37 ((out.length + k.length + j.length + 4 : Nat)) [])] ++ j ++ [(S_api_Instr.mk 41 (d) [])]⟩ := by
  unfold weirgate_compile_maker_branch_39
  rw [put_ok (by omega)]
  simp only [obind, Option.bind_some]
  rw [block60 hb (by simp; omega)]
  simp only [Option.bind_some]
  rw [put_ok (by simp; omega)]
  simp only [Option.bind_some]
  rw [show out ++ [(S_api_Instr.mk 38 (0) [])] ++ k ++ [(S_api_Instr.mk 41 (d) [])] ++ [(S_api_Instr.mk 37 (0) [])] = out ++ (S_api_Instr.mk 38 (0) []) :: (k ++ [(S_api_Instr.mk 41 (d) []), (S_api_Instr.mk 37 (0) [])]) by simp]
  rw [idx_get (get_mid _ _ _)]
  simp only [Int.toNat_natCast]
  rw [set_mid]
  rw [show out ++ S_api_Instr.mk 38 (((out ++ S_api_Instr.mk 38 0 [] :: (k ++ [S_api_Instr.mk 41 d [], S_api_Instr.mk 37 0 []])).length : Nat) : Int) [] :: (k ++ [S_api_Instr.mk 41 d [], S_api_Instr.mk 37 0 []]) = out ++ [S_api_Instr.mk 38 (out.length + k.length + 3 : Nat) []] ++ k ++ [S_api_Instr.mk 41 d [], S_api_Instr.mk 37 0 []] by simp; omega]
  rw [block60 he (by simp; omega)]
  simp only [Option.bind_some]
  rw [show out ++ [(S_api_Instr.mk 38 ((out.length + k.length + 3 : Nat)) [])] ++ k ++ [(S_api_Instr.mk 41 (d) []), (S_api_Instr.mk 37 (0) [])] ++ j ++ [(S_api_Instr.mk 41 (d) [])] = (out ++ [(S_api_Instr.mk 38 ((out.length + k.length + 3 : Nat)) [])] ++ k ++ [(S_api_Instr.mk 41 (d) [])]) ++ (S_api_Instr.mk 37 (0) []) :: (j ++ [(S_api_Instr.mk 41 (d) [])]) by simp]
  rw [show (out ++ [(S_api_Instr.mk 38 (0) [])] ++ k ++ [(S_api_Instr.mk 41 (d) [])]).length = (out ++ [(S_api_Instr.mk 38 ((out.length + k.length + 3 : Nat)) [])] ++ k ++ [(S_api_Instr.mk 41 (d) [])]).length by simp]
  rw [idx_get (get_mid _ _ _)]
  simp only [Int.toNat_natCast]
  rw [set_mid]
  simp; omega
theorem repeat_ok {out k : List S_api_Instr} {x : S_api_TStmt} {d : Int} (hb : rec ⟨out ++ [(S_api_Instr.mk 39 (x.N) []), (S_api_Instr.mk 40 (0) [])]⟩ x.Body d = some ⟨(out ++ [(S_api_Instr.mk 39 (x.N) []), (S_api_Instr.mk 40 (0) [])]) ++ k⟩)
    (hl : out.length + k.length + 6 < 1073741824) :
    weirgate_compile_maker_repeat_40 rec ⟨out⟩ x d = some ⟨out ++ [(S_api_Instr.mk 39 (x.N) []), (S_api_Instr.mk 40 ((out.length + k.length + 4 : Nat)) [])] ++ k ++ [(S_api_Instr.mk 41 (d) []), (S_api_Instr.mk 37 ((out.length + 1 : Nat)) [])]⟩ := by
  unfold weirgate_compile_maker_repeat_40
  rw [put_ok (by omega)]
  simp only [obind, Option.bind_some]
  rw [put_ok (by simp; omega)]
  simp only [Option.bind_some]
  rw [show out ++ [(S_api_Instr.mk 39 (x.N) [])] ++ [(S_api_Instr.mk 40 (0) [])] = out ++ [(S_api_Instr.mk 39 (x.N) []), (S_api_Instr.mk 40 (0) [])] by simp]
  rw [block60 hb (by simp; omega)]
  simp only [Option.bind_some]
  rw [put_ok (by simp; omega)]
  simp only [Option.bind_some]
  rw [show out ++ [(S_api_Instr.mk 39 (x.N) []), (S_api_Instr.mk 40 (0) [])] ++ k ++ [(S_api_Instr.mk 41 (d) [])] ++ [(S_api_Instr.mk 37 (((out ++ [(S_api_Instr.mk 39 (x.N) [])]).length : Int)) [])] = (out ++ [(S_api_Instr.mk 39 (x.N) [])]) ++ (S_api_Instr.mk 40 (0) []) :: (k ++ [(S_api_Instr.mk 41 (d) []), (S_api_Instr.mk 37 (((out ++ [(S_api_Instr.mk 39 (x.N) [])]).length : Int)) [])]) by simp]
  rw [idx_get (get_mid _ _ _)]
  simp only [Int.toNat_natCast]
  rw [set_mid]
  simp; omega
end
theorem ccode : ∀ (n : Nat) (l : List S_api_TStmt) (out : List S_api_Instr) (d : Int), okB l → nodesB l + 1 < n → out.length + 7 * nodesB l + 100 < 1073741824 → 0 ≤ d → d + nodesB l < 1073741824 →
    weirgate_compile_maker_code_21 n ⟨out⟩ l d = some ⟨out ++ cB l out.length d⟩
  | 0, l, out, d, _, h, _, _, _ => by omega
  | n + 1, l, out, d, ho, h, hl, hd, hdl => by
    have hlen := nodesB_len l
    show weirgate_compile_maker_code_21_body n (weirgate_compile_maker_code_21 n) ⟨out⟩ l d = _
    unfold weirgate_compile_maker_code_21_body
    have := iter_at (l := l) (step := weirgate_compile_maker_code_21_L1 n l (weirgate_compile_maker_code_21 n)) (fun i => (dK (l.take i) d, (i : Int), out ++ cB (l.take i) out.length d)) ⟨out ++ cB l out.length d⟩ (fun i x hx => by
      have hlt := (List.getElem?_eq_some_iff.1 hx).1
      have hnx := nodesB_takeS _ _ _ hx
      have hcl := cB_len (l.take i) out.length d
      have hcs := cS_len x (out.length + (cB (l.take i) out.length d).length) (dK (l.take i) d)
      have hdk := dK_le (l.take i) d
      have hnl := nodesB_len (l.take i)
      have hne := nodesS_eq x
      have hcx := cE_len x.X
      have hxn := nodes_eq x.X
      obtain ⟨⟨ok1, ok2⟩, okb, oke⟩ := (okS_eq x).1 (okB_get _ _ _ ho hx)
      rw [dK_take _ _ _ _ hx, cB_take _ _ _ _ _ hx]
      generalize hD : dK (l.take i) d = D at *
      generalize hO : out ++ cB (l.take i) out.length d = O at *
      have hOl : O.length = out.length + (cB (l.take i) out.length d).length := by rw [← hO]; simp
      rw [← List.append_assoc, hO, ← hOl]
      rw [← hOl] at hcs
      unfold weirgate_compile_maker_code_21_L1
      simp only [show decide ((i : Int) < (l.length : Int)) = true by simp; omega, cond_true]
      rw [idx_get hx, put_ok (by omega)]
      simp only [obind, Option.bind_some]
      rw [i64_succ (N := l.length) (by omega) (by omega)]
      by_cases h6 : x.Kind = 6
      · rw [cS6 _ _ _ h6] at hcs ⊢
        have hb := ccode n x.Body (O ++ [(S_api_Instr.mk 30 (0) [])] ++ [(S_api_Instr.mk 39 (x.N) []), (S_api_Instr.mk 40 (0) [])]) D okb (by omega) (by simp; omega) (by omega) (by omega)
        rw [show (O ++ [(S_api_Instr.mk 30 (0) [])] ++ [(S_api_Instr.mk 39 (x.N) []), (S_api_Instr.mk 40 (0) [])]).length = O.length + 3 by simp] at hb
        have hr := repeat_ok hb (by simp at hcs ⊢; omega)
        simp [h6, hr]
        omega
      · by_cases h5 : x.Kind = 5
        · have hb := ccode n x.Body (O ++ [(S_api_Instr.mk 30 (0) [])] ++ cE x.X ++ [(S_api_Instr.mk 38 (0) [])]) D okb (by omega) (by simp; omega) (by omega) (by omega)
          rw [show (O ++ [(S_api_Instr.mk 30 (0) [])] ++ cE x.X ++ [(S_api_Instr.mk 38 (0) [])]).length = O.length + 2 + (cE x.X).length by simp; omega] at hb
          have hbl := cB_len x.Body (O.length + 2 + (cE x.X).length) D
          generalize hk : cB x.Body (O.length + 2 + (cE x.X).length) D = k at *
          have he := ccode n x.Else (O ++ [(S_api_Instr.mk 30 (0) [])] ++ cE x.X ++ [(S_api_Instr.mk 38 (((O ++ [(S_api_Instr.mk 30 (0) [])] ++ cE x.X).length + k.length + 3 : Nat)) [])] ++ k ++ [(S_api_Instr.mk 41 (D) []), (S_api_Instr.mk 37 (0) [])]) D oke (by omega) (by simp; omega) (by omega) (by omega)
          rw [show (O ++ [(S_api_Instr.mk 30 (0) [])] ++ cE x.X ++ [(S_api_Instr.mk 38 (((O ++ [(S_api_Instr.mk 30 (0) [])] ++ cE x.X).length + k.length + 3 : Nat)) [])] ++ k ++ [(S_api_Instr.mk 41 (D) []), (S_api_Instr.mk 37 (0) [])]).length = O.length + 4 + (cE x.X).length + k.length by simp; omega] at he
          have hel := cB_len x.Else (O.length + 4 + (cE x.X).length + k.length) D
          have hr := branch_ok hb he (by simp; omega)
          have hX := cexpr n x.X (O ++ [(S_api_Instr.mk 30 (0) [])]) (by omega) (by simp; omega)
          have hres : O ++ cS x O.length D = (O ++ [(S_api_Instr.mk 30 (0) [])] ++ cE x.X) ++ [(S_api_Instr.mk 38 (((O ++ [(S_api_Instr.mk 30 (0) [])] ++ cE x.X).length + k.length + 3 : Nat)) [])] ++ k ++ [(S_api_Instr.mk 41 D []), (S_api_Instr.mk 37 (((O ++ [(S_api_Instr.mk 30 (0) [])] ++ cE x.X).length + k.length + (cB x.Else (O.length + 4 + (cE x.X).length + k.length) D).length + 4 : Nat)) [])] ++ cB x.Else (O.length + 4 + (cE x.X).length + k.length) D ++ [(S_api_Instr.mk 41 D [])] := by
            rw [cS5 x O.length D h5 rfl hk.symm rfl]; simp; omega
          rw [hres]
          simp only [show decide (x.Kind ≠ 6) = true by simpa using h6, cond_true, hX, Option.bind_some, bindJ_go]
          generalize O ++ [(S_api_Instr.mk 30 (0) [])] ++ cE x.X = Q at hr ⊢
          simp [h5, hr]
        · have hX := cexpr n x.X (O ++ [(S_api_Instr.mk 30 (0) [])]) (by omega) (by simp; omega)
          have hp : ∀ (op a : Int) (s : List UInt8), weirgate_compile_maker_put_41 ⟨O ++ [(S_api_Instr.mk 30 (0) [])] ++ cE x.X⟩ op a s = some (((O ++ [(S_api_Instr.mk 30 (0) [])] ++ cE x.X).length : Int), ⟨(O ++ [(S_api_Instr.mk 30 (0) [])] ++ cE x.X) ++ [⟨op, a, s⟩]⟩) := fun op a s => put_ok (by simp; omega)
          rw [cSo x _ _ h5 h6, show O ++ ([(S_api_Instr.mk 30 (0) [])] ++ cE x.X ++ [lastI x]) = (O ++ [(S_api_Instr.mk 30 (0) [])] ++ cE x.X) ++ [lastI x] by simp]
          simp only [show decide (x.Kind ≠ 6) = true by simpa using h6, cond_true, hX, Option.bind_some, bindJ_go]
          generalize O ++ [(S_api_Instr.mk 30 (0) [])] ++ cE x.X = Q at hp ⊢
          have hk9 : x.Kind = 1 ∨ x.Kind = 2 ∨ x.Kind = 3 ∨ x.Kind = 4 ∨ x.Kind = 7 ∨ x.Kind = 8 ∨ x.Kind = 9 := by omega
          rcases hk9 with h | h | h | h | h | h | h
          · rw [w64 (by omega) (by omega)]
            simp [h, weirgate_compile_maker_store_36, hp, obind, lastI]
          · simp [h, weirgate_compile_maker_store_36, hp, obind, lastI]
          · simp [h, weirgate_compile_maker_header_37, hp, obind, lastI]
          · simp [h, weirgate_compile_maker_plain_38, hp, obind, lastI, mget, mput]
          · simp [h, weirgate_compile_maker_plain_38, hp, obind, lastI, mget, mput]
          · simp [h, weirgate_compile_maker_plain_38, hp, obind, lastI, mget, mput]
          · simp [h, weirgate_compile_maker_plain_38, hp, obind, lastI, mget, mput]) (by
      unfold weirgate_compile_maker_code_21_L1; simp) n 0 (by omega) (by omega)
    simpa [cB, dK] using this
end Go.Proofs.Ytgjdaamkfpbgpaa
namespace Go.Proofs.Ytgjdaamkfpbgpaa
open Go.Abs
set_option linter.unusedVariables false
set_option linter.unusedSimpArgs false

theorem condZ {α : Type} {p : α → Prop} {b : Bool} {x y : Option α} (h1 : b = true → ∃ r, x = some r ∧ p r) (h2 : b = false → ∃ r, y = some r ∧ p r) : ∃ r, cond b x y = some r ∧ p r := by cases b <;> simp_all
def valT (op k : Int) : Int :=
  if op = 8 ∨ op = 11 ∨ op = 12 ∨ op = 13 ∨ op = 14 then (if k = 1 then 1 else 0) else if op = 10 then (if k = 3 then 0 else k) else if op = 9 ∨ op = 21 ∨ op = 22 then (if k = 3 then 3 else 0)
  else if op = 15 ∨ op = 16 ∨ op = 17 ∨ op = 18 then (if k = 3 then 0 else 3) else 3
theorem value_eq (op k : Int) : compile_value op k = some (valT op k) := by
  have h := fun a => Classical.em (op = a)
  unfold compile_value valT
  rcases h 8 with rfl | h8
  · by_cases hk : k = 1 <;> simp [hk]
  rcases h 11 with rfl | h11
  · by_cases hk : k = 1 <;> simp [hk]
  rcases h 12 with rfl | h12
  · by_cases hk : k = 1 <;> simp [hk]
  rcases h 13 with rfl | h13
  · by_cases hk : k = 1 <;> simp [hk]
  rcases h 14 with rfl | h14
  · by_cases hk : k = 1 <;> simp [hk]
  rcases h 10 with rfl | h10
  · by_cases hk : k = 3 <;> simp [hk]
  rcases h 9 with rfl | h9
  · by_cases hk : k = 3 <;> simp [hk]
  rcases h 21 with rfl | h21
  · by_cases hk : k = 3 <;> simp [hk]
  rcases h 22 with rfl | h22
  · by_cases hk : k = 3 <;> simp [hk]
  rcases h 15 with rfl | h15
  · by_cases hk : k = 3 <;> simp [hk]
  rcases h 16 with rfl | h16
  · by_cases hk : k = 3 <;> simp [hk]
  rcases h 17 with rfl | h17
  · by_cases hk : k = 3 <;> simp [hk]
  rcases h 18 with rfl | h18
  · by_cases hk : k = 3 <;> simp [hk]
  simp [h8, h9, h10, h11, h12, h13, h14, h15, h16, h17, h18, h21, h22]
def lfE (op n slot : Int) (s : List UInt8) (vs : List Int) (ty : Int) : Prop :=
  (op = 1 ∧ 0 ≤ n ∧ n < 1000000000000000000 ∧ ty = 1) ∨ ((op = 2 ∨ op = 6) ∧ s.length ≤ 200 ∧ ty = 2) ∨ ((op = 4 ∨ op = 5) ∧ ty = 3) ∨ (op = 7 ∧ ty = 1) ∨ (op = 3 ∧ 0 ≤ slot ∧ vs[slot.toNat]? = some ty)
theorem leaf_ex2 (x : S_api_TExpr) (vars : List Int) : ∃ r, ref20_leaf x vars = some r ∧ (r ≠ 0 → lfE x.Op x.N x.Slot x.S vars r) := by
  unfold ref20_leaf lfE
  refine condZ (fun h => ⟨_, rfl, fun _ => .inl ?_⟩) fun _ => condZ (fun h => ⟨_, rfl, fun _ => .inr (.inl ?_)⟩) fun _ => condZ (fun h => ⟨_, rfl, fun _ => .inr (.inr (.inl ?_))⟩) fun _ => condZ (fun h => ⟨_, rfl, fun _ => .inr (.inr (.inr (.inl ?_)))⟩) fun _ => condZ (fun h => ?_) (fun _ => ⟨_, rfl, fun h => absurd rfl h⟩)
  · simp at h; omega
  · simp at h; omega
  · simp at h; omega
  · simp at h; omega
  · simp at h
    rw [idx_int h.1.2 (by omega)]
    exact ⟨_, rfl, fun _ => .inr (.inr (.inr (.inr ⟨h.1.1, h.1.2, List.getElem?_eq_getElem _⟩)))⟩
def ariB (op : Int) (len : Nat) : Prop := 8 ≤ op ∧ op ≤ 23 ∧ ((op = 8 ∨ op = 9) ∧ len = 1 ∨ op = 23 ∧ 2 ≤ len ∨ (op ≠ 8 ∧ op ≠ 9 ∧ op ≠ 23) ∧ len = 2)
theorem result_ex2 (n : Nat) (op : Int) (l : List Int) (hn : l.length < n) (hl : l.length < 1073741824) : ∃ r, ref20_result n op l = some r ∧ (r ≠ 0 → (∃ k, (∀ y ∈ l, y = k) ∧ valT op k = r) ∧ 8 ≤ op ∧ op ≤ 23) := by
  unfold ref20_result
  obtain ⟨r, h1, h2⟩ := iter_inv (step := ref20_result_L1 l) (fun s => ∃ k : Nat, s = k ∧ 1 ≤ k ∧ ∀ j, j < k → ∀ (h : j < l.length), l[j] = l[0]'(by omega)) (fun s => l.length - s.toNat) (fun r => match r with | .go _ => ∀ j, ∀ (h : j < l.length), l[j] = l[0]'(by omega) | .stop r => r = 0) (fun s ⟨k, hk, h1, hs⟩ => by
      subst hk
      unfold ref20_result_L1
      by_cases hc : k < l.length
      · simp only [show decide ((k : Int) < (l.length : Int)) = true by simp; omega, cond_true]
        rw [idx_get' hc, idx_int (w := 0) (by omega) (by simp; omega)]
        rw [i64_succ (N := l.length) (by omega) (by omega)]
        by_cases he : l[k] = l[(0 : Int).toNat]'(by simp; omega)
        · simp only [he, ne_eq, not_true_eq_false, decide_false, cond_false]
          refine .inl ⟨_, rfl, ⟨k + 1, rfl, by omega, fun j hj hl => ?_⟩, by simp; omega⟩
          by_cases hjk : j = k
          · subst hjk; exact he
          · exact hs j (by omega) hl
        · simp only [he, ne_eq, not_false_eq_true, decide_true, cond_true]
          exact .inr ⟨_, rfl, rfl⟩
      · simp only [show decide ((k : Int) < (l.length : Int)) = false by simp; omega, cond_false]
        exact .inr ⟨_, rfl, fun j hj => hs j (by omega) hj⟩) n 1 ⟨1, rfl, by omega, fun j hj h => by simp only [show j = 0 by omega]⟩ (by simp; omega)
  rw [h1]
  cases r with
  | stop r => simp only at h2; exact ⟨_, rfl, fun h => absurd h2 h⟩
  | go u =>
    simp only [bindJ_go]
    simp only at h2
    refine condZ (fun _ => ⟨_, rfl, fun h => absurd rfl h⟩) fun h => ?_
    have hlen : 0 < l.length := by simp at h; exact List.length_pos_iff.2 h
    rw [idx_int (w := 0) (by omega) hlen]
    have hall : ∀ y ∈ l, y = l[(0 : Int).toNat] := by
      intro y hy
      obtain ⟨j, hj, rfl⟩ := List.getElem_of_mem hy
      exact h2 j hj
    generalize l[(0 : Int).toNat] = k at hall
    refine condZ (fun h3 => condZ (fun h4 => ⟨_, rfl, fun _ => ?_⟩) fun _ => ⟨_, rfl, fun h => absurd rfl h⟩) fun n1 => condZ (fun h3 => condZ (fun h4 => ⟨_, rfl, fun _ => ?_⟩) fun _ => ⟨_, rfl, fun h => absurd rfl h⟩) fun n2 =>
      condZ (fun h3 => condZ (fun _ => ⟨_, rfl, fun h => absurd rfl h⟩) fun h4 => ⟨_, rfl, fun _ => ?_⟩) fun n3 => condZ (fun h3 => condZ (fun _ => ⟨_, rfl, fun h => absurd rfl h⟩) fun h4 => ⟨_, rfl, fun _ => ?_⟩) fun n4 => condZ (fun h3 => ⟨_, rfl, fun _ => ?_⟩) fun _ => ⟨_, rfl, fun h => absurd rfl h⟩
    · simp at h3 h4
      exact ⟨⟨k, hall, by unfold valT; rw [if_pos (by omega), if_pos h4]⟩, by omega, by omega⟩
    · simp at h3 h4 n1
      exact ⟨⟨k, hall, by unfold valT; rw [if_neg (by omega), if_neg (by omega), if_pos (by omega), if_pos h4]⟩, by omega, by omega⟩
    · simp at h3 h4 n1 n2
      exact ⟨⟨k, hall, by unfold valT; rw [if_neg (by omega), if_pos (by omega), if_neg h4]⟩, by omega, by omega⟩
    · simp at h3 h4 n1 n2 n3
      exact ⟨⟨k, hall, by unfold valT; rw [if_neg (by omega), if_neg (by omega), if_neg (by omega), if_pos (by omega), if_neg h4]⟩, by omega, by omega⟩
    · simp at h3 n1 n2 n3 n4
      exact ⟨⟨k, hall, by unfold valT; rw [if_neg (by omega), if_neg (by omega), if_neg (by omega), if_neg (by omega)]⟩, by omega, by omega⟩
mutual
def rE : S_api_TExpr → List Int → Prop
  | ⟨op, ty, n, slot, s, l⟩, vs => ty ≠ 0 ∧ ((l = [] ∧ lfE op n slot s vs ty) ∨ (ariB op l.length ∧ rEL l vs ∧ ∃ k, (∀ y ∈ l, y.Type_ = k) ∧ valT op k = ty))
def rEL : List S_api_TExpr → List Int → Prop
  | [], _ => True
  | x :: r, vs => rE x vs ∧ rEL r vs
end
theorem rE_eq (x : S_api_TExpr) (vs : List Int) : rE x vs ↔ x.Type_ ≠ 0 ∧ ((x.Args = [] ∧ lfE x.Op x.N x.Slot x.S vs x.Type_) ∨ (ariB x.Op x.Args.length ∧ rEL x.Args vs ∧ ∃ k, (∀ y ∈ x.Args, y.Type_ = k) ∧ valT x.Op k = x.Type_)) := by cases x; simp [rE]
theorem rEL_of : ∀ (l : List S_api_TExpr) (vs : List Int), (∀ x ∈ l, rE x vs) → rEL l vs
  | [], _, _ => by simp [rEL]
  | x :: r, vs, h => by simp only [rEL]; exact ⟨h x (.head _), rEL_of r vs fun y hy => h y (.tail _ hy)⟩
theorem rightE2 : ∀ (n : Nat) (x : S_api_TExpr) (vars : List Int) (deep : Int), x.nodes < n → x.nodes < 1073741824 → ∃ b, ref20_RightExpr n x vars deep = some b ∧ (b = true → rE x vars)
  | 0, x, vars, deep, h, _ => by omega
  | n + 1, x, vars, deep, h, hb => by
    have hn := nodes_eq x
    have hlen := nodesL_len x.Args
    show ∃ r, ref20_RightExpr_body n (ref20_RightExpr n) x vars deep = some r ∧ (r = true → rE x vars)
    unfold ref20_RightExpr_body
    refine condZ (fun _ => ⟨_, rfl, fun h => by cases h⟩) fun _ => condZ (fun _ => ⟨_, rfl, fun h => by cases h⟩) fun _ => condZ (fun _ => ?_) fun hop => condZ (fun _ => ⟨_, rfl, fun h => by cases h⟩) fun har => ?_
    · obtain ⟨r, hr, hl⟩ := leaf_ex2 x vars
      rw [hr]
      refine ⟨_, rfl, fun h => ?_⟩
      simp at h
      exact (rE_eq x vars).2 ⟨by omega, .inl ⟨h.1.1, by rw [h.2]; exact hl h.1.2⟩⟩
    · obtain ⟨r, h1, h2⟩ := iter_inv (step := ref20_RightExpr_L1 x vars deep (ref20_RightExpr n)) (fun s => ∃ k : Nat, s.2 = k ∧ k ≤ x.Args.length ∧ s.1 = (x.Args.take k).map (·.Type_) ∧ ∀ y ∈ x.Args.take k, rE y vars) (fun s => x.Args.length - s.2.toNat) (fun r => match r with | .go q => q = x.Args.map (·.Type_) ∧ (∀ y ∈ x.Args, rE y vars) | .stop b => b = false) (fun ⟨a, b⟩ ⟨k, hk, hle, hal, hre⟩ => by
        simp only at hk hal; subst hk
        unfold ref20_RightExpr_L1
        by_cases hc : k < x.Args.length
        · simp only [show decide ((k : Int) < (x.Args.length : Int)) = true by simp; omega, cond_true]
          have hx := List.getElem?_eq_getElem hc
          have := nodesL_get _ _ _ hx
          obtain ⟨r, hr, hre2⟩ := rightE2 n x.Args[k] vars (IntKind.i64.wrap (deep + 1)) (by omega) (by omega)
          rw [idx_get hx, hr]
          simp only [obind, Option.bind_some]
          cases r
          · exact .inr ⟨_, rfl, rfl⟩
          · simp only [Bool.not_true, cond_false]
            rw [need_pos (by simp [hal]; omega), i64_succ (N := x.Args.length) (by omega) (by omega)]
            refine .inl ⟨_, rfl, ⟨k + 1, rfl, by omega, ?_, ?_⟩, by simp; omega⟩
            · simp only [hal]; rw [List.take_succ_eq_append_getElem hc, List.map_append]; rfl
            · rw [List.take_succ_eq_append_getElem hc]
              intro y hy
              rcases List.mem_append.1 hy with hy | hy
              · exact hre y hy
              · simp at hy; subst hy; exact hre2 rfl
        · simp only [show decide ((k : Int) < (x.Args.length : Int)) = false by simp; omega, cond_false]
          rw [show k = x.Args.length by omega, List.take_length] at hal hre
          exact .inr ⟨_, rfl, hal, hre⟩) n ([], 0) ⟨0, rfl, by omega, by simp, by simp⟩ (by simp; omega)
      rw [h1]
      cases r with
      | stop r => simp only at h2; exact ⟨_, rfl, fun h => by simp [h2] at h⟩
      | go q =>
        simp only [bindJ_go] at h2 ⊢
        obtain ⟨r, hr, hres⟩ := result_ex2 n x.Op q (by rw [h2.1]; simp; omega) (by rw [h2.1]; simp; omega)
        rw [hr]
        refine ⟨_, rfl, fun h => ?_⟩
        simp at h
        obtain ⟨⟨k, hk, hv⟩, h8, h23⟩ := hres h.1
        refine (rE_eq x vars).2 ⟨by omega, .inr ⟨?_, rEL_of _ _ h2.2, k, fun y hy => hk _ (by rw [h2.1]; exact List.mem_map.2 ⟨y, hy, rfl⟩), by rw [hv, h.2]⟩⟩
        refine ⟨h8, h23, ?_⟩
        simp at har
        omega
end Go.Proofs.Ytgjdaamkfpbgpaa
namespace Go.Proofs.Ytgjdaamkfpbgpaa
open Go.Abs
set_option linter.unusedVariables false
set_option linter.unusedSimpArgs false

def nextV (s : S_api_TStmt) (vs : List Int) : List Int := if s.Kind = 1 then vs ++ [s.X.Type_] else vs
def stF (kind slot n : Int) (name : List UInt8) (ty : Int) (vs : List Int) : Prop :=
  1 ≤ kind ∧ kind ≤ 9 ∧ name.length ≤ 200 ∧ (kind = 6 → 0 ≤ n ∧ n ≤ 1000) ∧ (kind = 1 → slot = (vs.length : Int) ∧ vs.length < 200) ∧ (kind = 2 → 0 ≤ slot ∧ vs[slot.toNat]? = some ty) ∧ (kind = 4 → ty = 1) ∧ (kind = 5 → ty = 3) ∧ (kind = 3 ∨ kind = 7 ∨ kind = 8 ∨ kind = 9 → ty = 2)
mutual
def rS : S_api_TStmt → List Int → Prop
  | ⟨kind, slot, n, name, x, b, e⟩, vs => stF kind slot n name x.Type_ vs ∧ (kind ≠ 6 → rE x vs) ∧ rB b vs ∧ rB e vs
def rB : List S_api_TStmt → List Int → Prop
  | [], _ => True
  | s :: r, vs => rS s vs ∧ rB r (nextV s vs)
end
theorem rS_eq (s : S_api_TStmt) (vs : List Int) : rS s vs ↔ stF s.Kind s.Slot s.N s.Name s.X.Type_ vs ∧ (s.Kind ≠ 6 → rE s.X vs) ∧ rB s.Body vs ∧ rB s.Else vs := by cases s; simp [rS]
mutual
theorem okS_of : ∀ (s : S_api_TStmt) (vs : List Int), rS s vs → okS s
  | ⟨kind, slot, n, name, x, b, e⟩, vs, h => by
    simp only [rS] at h
    simp only [okS]
    exact ⟨⟨h.1.1, h.1.2.1⟩, okB_of b vs h.2.2.1, okB_of e vs h.2.2.2⟩
theorem okB_of : ∀ (l : List S_api_TStmt) (vs : List Int), rB l vs → okB l
  | [], _, _ => by simp [okB]
  | s :: r, vs, h => by simp only [rB] at h; simp only [okB]; exact ⟨okS_of s vs h.1, okB_of r _ h.2⟩
end
def varsA (l : List S_api_TStmt) (vs : List Int) : List Int := l.foldl (fun v s => nextV s v) vs
theorem rB_take : ∀ (l : List S_api_TStmt) (i : Nat) (x : S_api_TStmt) (vs : List Int), l[i]? = some x → rB (l.take i) vs → rS x (varsA (l.take i) vs) → rB (l.take (i + 1)) vs
  | y :: r, 0, x, vs, h, _, ho => by simp at h; subst h; simpa [rB, varsA] using ho
  | y :: r, i + 1, x, vs, h, hi, ho => by
    simp only [List.take_succ_cons, rB] at hi ⊢
    exact ⟨hi.1, rB_take r i x _ (by simpa using h) hi.2 (by simpa [varsA] using ho)⟩
theorem varsA_take (l : List S_api_TStmt) (i : Nat) (x : S_api_TStmt) (vs : List Int) (h : l[i]? = some x) : varsA (l.take (i + 1)) vs = nextV x (varsA (l.take i) vs) := by
  obtain ⟨hi, rfl⟩ := List.getElem?_eq_some_iff.1 h
  unfold varsA
  rw [List.take_succ_eq_append_getElem hi, List.foldl_append]; rfl
def Gq (p : Prop) (v : List Int) (o : Option (Lp (List Int) (Lp (List Int × Int) (Lp Unit Bool)))) : Prop := o = some (.stop (.stop (.stop false))) ∨ (p ∧ o = some (.go v))
theorem gq_stop {p : Prop} {v : List Int} : Gq p v (some (.stop (.stop (.stop false)))) := .inl rfl
theorem gq_go {p : Prop} {v w : List Int} (h : p) (e : w = v) : Gq p v (some (.go w)) := .inr ⟨h, by rw [e]⟩
theorem gq_cond {p : Prop} {v : List Int} {b : Bool} {x y} (h1 : b = true → Gq p v x) (h2 : b = false → Gq p v y) : Gq p v (cond b x y) := by cases b <;> simp_all
theorem gq_need {p q : Prop} {v : List Int} [Decidable q] {y} (h : q) (h2 : Gq p v y) : Gq p v (need q y) := by rw [need_pos h]; exact h2
theorem gq_bindB {p : Prop} {v : List Int} {o : Option (Lp Bool _)} {b : Bool} {k} (h : o = some (.go b)) (h2 : Gq p v (k b)) : Gq p v (bindJ o k) := by rw [h]; exact h2
theorem wants_eq (k : Int) : ref20_Wants k = some (if k = 4 then 1 else if k = 5 then 3 else 2) := by
  unfold ref20_Wants
  by_cases h4 : k = 4 <;> by_cases h5 : k = 5 <;> simp [h4, h5]
theorem rightB2 : ∀ (n : Nat) (l : List S_api_TStmt) (vars : List Int) (deep : Int), nodesB l + 1 < n → nodesB l < 1073741824 → ∃ b, ref20_RightBlock n l vars deep = some b ∧ (b = true → rB l vars)
  | 0, l, vars, deep, h, _ => by omega
  | n + 1, l, vars, deep, h, hb => by
    have hlen := nodesB_len l
    show ∃ b, ref20_RightBlock_body n (ref20_RightBlock n) l vars deep = some b ∧ (b = true → rB l vars)
    unfold ref20_RightBlock_body
    obtain ⟨r, h1, h2⟩ := iter_inv (step := ref20_RightBlock_L1 n l deep (ref20_RightBlock n)) (fun s => ∃ k : Nat, s.2 = k ∧ k ≤ l.length ∧ s.1 = varsA (l.take k) vars ∧ rB (l.take k) vars) (fun s => l.length - s.2.toNat) (fun r => match r with | .go _ => rB l vars | .stop b => b = false) (fun ⟨a, b⟩ ⟨k, hk, hle, ha, hok⟩ => by
      simp only at hk ha; subst hk
      unfold ref20_RightBlock_L1
      by_cases hc : k < l.length
      · simp only [show decide ((k : Int) < (l.length : Int)) = true by simp; omega, cond_true]
        have hx := List.getElem?_eq_getElem hc
        have := nodesB_get _ _ _ hx
        have h2 := nodesS_eq l[k]
        have h3 := nodes_eq l[k].X
        rw [idx_get hx, i64_succ (N := l.length) (by omega) (by omega)]
        generalize l[k] = x at *
        have key : ∀ o, Gq (rS x a) (nextV x a) o → (∃ s', bindJ o (fun vars_13 => some (.go (vars_13, ((k + 1 : Nat) : Int)))) = some (.go s') ∧ (∃ k' : Nat, s'.2 = k' ∧ k' ≤ l.length ∧ s'.1 = varsA (l.take k') vars ∧ rB (l.take k') vars) ∧ l.length - s'.2.toNat < l.length - ((k : Int)).toNat) ∨ (∃ r, bindJ o (fun vars_13 => some (.go (vars_13, ((k + 1 : Nat) : Int)))) = some (.stop r) ∧ (match r with | .go _ => rB l vars | .stop b => b = false)) := by
          intro o ho
          rcases ho with rfl | ⟨ho, rfl⟩
          · exact .inr ⟨_, rfl, rfl⟩
          · exact .inl ⟨_, rfl, ⟨k + 1, rfl, by omega, by rw [varsA_take _ _ _ _ hx, ha], rB_take _ _ _ _ hx hok (by rw [← ha]; exact ho)⟩, by simp; omega⟩
        refine key _ ?_
        refine gq_cond (fun _ => gq_stop) fun hkd => gq_cond (fun _ => gq_stop) fun hnm => gq_cond (fun _ => gq_stop) fun _ => ?_
        have hX : ∃ o : Lp Unit (Lp (List Int) (Lp (List Int × Int) (Lp Unit Bool))), (cond (decide (x.Kind = 6)) (obind (ref20_zero x.X) fun r74 => cond (((!r74) || decide (x.N < 0)) || decide (1000 < x.N)) (some (.stop (.stop (.stop (.stop false))))) (some (.go ()))) (obind (ref20_RightExpr n x.X a (IntKind.i64.wrap (deep + 1))) fun r83 => cond (!r83) (some (.stop (.stop (.stop (.stop false))))) (some (.go ())))) = some o ∧ (o = .stop (.stop (.stop (.stop false))) ∨ (o = .go () ∧ (x.Kind ≠ 6 → rE x.X a) ∧ (x.Kind = 6 → 0 ≤ x.N ∧ x.N ≤ 1000))) := by
          by_cases h6 : x.Kind = 6
          · obtain ⟨z, hz⟩ : ∃ z, ref20_zero x.X = some z := ⟨_, rfl⟩
            simp only [h6, decide_true, hz, obind, Option.bind_some, cond_true]
            generalize hw : (((!z) || decide (x.N < 0)) || decide (1000 < x.N)) = bc
            cases bc
            · refine ⟨_, rfl, .inr ⟨rfl, fun h => absurd rfl h, fun _ => ?_⟩⟩
              simp at hw; omega
            · exact ⟨_, rfl, .inl rfl⟩
          · obtain ⟨r, hr, hre⟩ := rightE2 n x.X a (IntKind.i64.wrap (deep + 1)) (by omega) (by omega)
            simp only [h6, decide_false, hr, obind, Option.bind_some, cond_false]
            cases r
            · exact ⟨_, rfl, .inl rfl⟩
            · exact ⟨_, rfl, .inr ⟨rfl, fun _ => hre rfl, fun h => by cases h⟩⟩
        obtain ⟨o, ho, ho2⟩ := hX
        rw [ho]
        rcases ho2 with rfl | ⟨rfl, hxe, hxn⟩
        · exact gq_stop
        · simp only [bindJ_go]
          obtain ⟨b1, hb1, hk1⟩ := rightB2 n x.Body a (IntKind.i64.wrap (deep + 1)) (by omega) (by omega)
          obtain ⟨b2, hb2, hk2⟩ := rightB2 n x.Else a (IntKind.i64.wrap (deep + 1)) (by omega) (by omega)
          simp only [hb1, hb2, obind, Option.bind_some]
          refine gq_cond (fun _ => gq_stop) fun hbb => ?_
          simp at hbb hkd hnm
          have hs : stF x.Kind x.Slot x.N x.Name x.X.Type_ a → rS x a := fun h => (rS_eq x a).2 ⟨h, hxe, hk1 hbb.1, hk2 hbb.2⟩
          refine gq_cond (fun hk1 => gq_cond (fun _ => gq_stop) fun hv => ?_) fun hk1 => gq_cond (fun hk2 => ?_) fun hk2 => ?_
          · simp at hv hk1
            exact gq_need (by simp; omega) (gq_need (by simp; omega) (gq_go (hs ⟨by omega, by omega, by omega, hxn, fun _ => ⟨by omega, by omega⟩, fun h => by omega, fun h => by omega, fun h => by omega, fun h => by omega⟩) (by simp [nextV, hk1])))
          · simp at hk1 hk2
            by_cases hsl : x.Slot < 0 ∨ (a.length : Int) ≤ x.Slot
            · exact gq_bindB (b := true) (by rw [show (decide (x.Slot < 0) || decide ((a.length : Int) ≤ x.Slot)) = true by simpa using hsl]; rfl) gq_stop
            · refine gq_bindB (b := decide (a[x.Slot.toNat]'(by omega) ≠ x.X.Type_)) (by rw [show (decide (x.Slot < 0) || decide ((a.length : Int) ≤ x.Slot)) = false by simp; omega]; simp only [cond_false]; rw [idx_int (by omega) (by omega)]) (gq_cond (fun _ => gq_stop) fun ht => gq_go (hs ⟨by omega, by omega, by omega, hxn, fun h => by omega, fun _ => ⟨by omega, ?_⟩, fun h => by omega, fun h => by omega, fun h => by omega⟩) (by simp [nextV, hk1]))
              rw [List.getElem?_eq_getElem (by omega)]
              simp at ht; rw [ht]
          · simp at hk1 hk2
            rw [wants_eq]
            by_cases h6 : x.Kind = 6
            · exact gq_bindB (b := false) (by simp [h6]) (gq_go (hs ⟨by omega, by omega, by omega, hxn, fun h => by omega, fun h => by omega, fun h => by omega, fun h => by omega, fun h => by omega⟩) (by simp [nextV, hk1]))
            · refine gq_bindB (b := decide (x.X.Type_ ≠ if x.Kind = 4 then 1 else if x.Kind = 5 then 3 else 2)) (by simp [h6]) (gq_cond (fun _ => gq_stop) fun ht => gq_go (hs ⟨by omega, by omega, by omega, hxn, fun h => by omega, fun h => by omega, fun h => ?_, fun h => ?_, fun h => ?_⟩) (by simp [nextV, hk1]))
              · simp [h] at ht; exact ht
              · simp [h] at ht; exact ht
              · simp only [decide_eq_false_iff_not, ne_eq, Decidable.not_not] at ht; rw [ht, if_neg (by omega), if_neg (by omega)]
      · simp only [show decide ((k : Int) < (l.length : Int)) = false by simp; omega, cond_false]
        exact .inr ⟨_, rfl, by simpa [show k = l.length by omega] using hok⟩) n (vars, 0) ⟨0, rfl, by omega, rfl, by simp [rB]⟩ (by simp; omega)
    rw [h1]
    cases r with
    | stop b => exact ⟨b, rfl, fun h => by simp only at h2; simp [h2] at h⟩
    | go u => exact ⟨true, rfl, fun _ => h2⟩
end Go.Proofs.Ytgjdaamkfpbgpaa
namespace Go.Proofs.Ytgjdaamkfpbgpaa
open Go.Abs
set_option linter.unusedVariables false
set_option linter.unusedSimpArgs false

def effB (l : List Int) : Prop := l.length ≤ 6 ∧ (∀ x ∈ l, 1 ≤ x ∧ x ≤ 6) ∧ ∀ (i : Nat) (h : i + 1 < l.length), l[i]'(by omega) < l[i + 1]
theorem right_ex2 (n : Nat) (p : S_api_Program) (h : nodesB p.Code + 1 < n) (hb : nodesB p.Code < 1073741824) (he : p.Effects.length < n) (hel : p.Effects.length < 1073741824) : ∃ b, ref20_Right n p = some b ∧ (b = true → rB p.Code [] ∧ effB p.Effects) := by
  unfold ref20_Right
  obtain ⟨r, h1, h2⟩ := iter_inv (step := ref20_Right_L1 p) (fun s => ∃ k : Nat, s = k ∧ k ≤ p.Effects.length ∧ ∀ (i : Nat) (hi : i < p.Effects.length), i < k → (i : Int) + 1 ≤ p.Effects[i] ∧ p.Effects[i] ≤ 6 ∧ ∀ (h0 : 0 < i), p.Effects[i - 1]'(by omega) < p.Effects[i]) (fun s => p.Effects.length - s.toNat) (fun r => match r with | .go _ => ∀ (i : Nat) (hi : i < p.Effects.length), (i : Int) + 1 ≤ p.Effects[i] ∧ p.Effects[i] ≤ 6 ∧ ∀ (h0 : 0 < i), p.Effects[i - 1]'(by omega) < p.Effects[i] | .stop b => b = false) (fun s ⟨k, hk, hle, hs⟩ => by
    subst hk
    unfold ref20_Right_L1
    by_cases hc : k < p.Effects.length
    · simp only [show decide ((k : Int) < (p.Effects.length : Int)) = true by simp; omega, cond_true]
      rw [idx_get' hc, i64_succ (N := p.Effects.length) (by omega) (by omega)]
      have hq : ∃ b : Bool, (cond (decide (p.Effects[k] < 1) || decide (6 < p.Effects[k])) (some (.go true)) (bindJ (S := Bool) (cond (decide (0 < (k : Int))) (idx p.Effects (k : Int) fun x28 => idx p.Effects (IntKind.i64.wrap ((k : Int) - 1)) fun x29 => some (.go (decide (x28 ≤ x29)))) (some (.go false))) (fun b22 => some (.go b22))) : Option (Lp Bool (Lp Int (Lp Unit Bool)))) = some (.go b) ∧ (b = false → 1 ≤ p.Effects[k] ∧ p.Effects[k] ≤ 6 ∧ ∀ (h0 : 0 < k), p.Effects[k - 1] < p.Effects[k]) := by
        by_cases hr : p.Effects[k] < 1 ∨ 6 < p.Effects[k]
        · rw [show (decide (p.Effects[k] < 1) || decide (6 < p.Effects[k])) = true by simpa using hr]; exact ⟨_, rfl, fun h => by cases h⟩
        · rw [show (decide (p.Effects[k] < 1) || decide (6 < p.Effects[k])) = false by simp; omega]
          by_cases h0 : 0 < k
          · rw [idx_get' hc, w64 (by omega) (by omega), show (k : Int) - 1 = ((k - 1 : Nat) : Int) by omega, idx_get' (by omega)]
            rw [show decide (0 < (k : Int)) = true by simp; omega]
            refine ⟨_, rfl, fun h => ?_⟩
            simp at h
            exact ⟨by omega, by omega, fun _ => h⟩
          · rw [show decide (0 < (k : Int)) = false by simp; omega]; exact ⟨_, rfl, fun _ => ⟨by omega, by omega, fun h => absurd h h0⟩⟩
      obtain ⟨b, hb, hbs⟩ := hq
      rw [hb]
      cases b
      · refine .inl ⟨_, rfl, ⟨k + 1, rfl, by omega, fun i hi hik => ?_⟩, by simp; omega⟩
        by_cases e : i = k
        · subst e
          obtain ⟨q1, q2, q3⟩ := hbs rfl
          refine ⟨?_, q2, q3⟩
          by_cases h0 : 0 < i
          · have := q3 h0; have := (hs (i - 1) (by omega) (by omega)).1; omega
          · omega
        · exact hs i hi (by omega)
      · exact .inr ⟨_, rfl, rfl⟩
    · simp only [show decide ((k : Int) < (p.Effects.length : Int)) = false by simp; omega, cond_false]
      exact .inr ⟨_, rfl, fun i hi => hs i hi (by omega)⟩) n 0 ⟨0, rfl, by omega, fun i hi h => by omega⟩ (by simp; omega)
  rw [h1]
  cases r with
  | stop b => exact ⟨b, rfl, fun h => by simp only at h2; simp [h2] at h⟩
  | go u =>
    obtain ⟨b, hb1, hb2⟩ := rightB2 n p.Code [] 1 h hb
    refine ⟨b, by simp only [bindJ_go, hb1]; rfl, fun h => ⟨hb2 h, ?_, ?_, ?_⟩⟩
    · simp only at h2
      by_cases h6 : p.Effects.length ≤ 6
      · exact h6
      · have := h2 6 (by omega); omega
    · intro x hx
      obtain ⟨j, hj, rfl⟩ := List.getElem_of_mem hx
      have := h2 j hj; exact ⟨by omega, by omega⟩
    · intro i hi
      exact (h2 (i + 1) hi).2.2 (by omega)
theorem tright_ok (n : Nat) (l : List Int) (hn : l.length < n) (h : effB l) : typing_Right n (S_api_Program.mk [] l []) = some true := by
  obtain ⟨h6, h1, h2⟩ := h
  unfold typing_Right
  have hl : iter (typing_Right_L1 (S_api_Program.mk [] l [])) n 0 = some (.go ()) := iter_allgo (step := typing_Right_L1 (S_api_Program.mk [] l [])) l.length (.go ()) (fun i hi => by
    unfold typing_Right_L1
    simp only [show decide ((i : Int) < (l.length : Int)) = true by simp; omega, cond_true]
    rw [idx_get' hi, w64 (x := (i : Int) + 1) (by omega) (by omega)]
    have := h1 l[i] (List.getElem_mem _)
    rw [show (decide (l[i] < 1) || decide (6 < l[i])) = false by simp; omega]
    simp only [cond_false]
    by_cases h0 : 0 < i
    · rw [w64 (by omega) (by omega), show (i : Int) - 1 = ((i - 1 : Nat) : Int) by omega, idx_get' (by omega)]
      have h3 := h2 (i - 1) (by omega)
      have e : i - 1 + 1 = i := by omega
      simp only [e] at h3
      rw [show decide (0 < (i : Int)) = true by simp; omega, show decide (l[i] ≤ l[i - 1]) = false by simp; omega]
      rfl
    · rw [show decide (0 < (i : Int)) = false by simp; omega]
      rfl) (by unfold typing_Right_L1; simp) n hn
  rw [hl]; rfl
theorem nodesL_app : ∀ (l : List S_api_TExpr) (i : Nat) (x : S_api_TExpr), l[i]? = some x → nodesL (l.take (i + 1)) = nodesL (l.take i) + x.nodes
  | y :: r, 0, x, h => by simp at h; subst h; simp [nodesL]
  | y :: r, i + 1, x, h => by simp only [List.take_succ_cons, nodesL]; have := nodesL_app r i x (by simpa using h); omega
theorem nodesB_app : ∀ (l : List S_api_TStmt) (i : Nat) (x : S_api_TStmt), l[i]? = some x → nodesB (l.take (i + 1)) = nodesB (l.take i) + x.nodes
  | y :: r, 0, x, h => by simp at h; subst h; simp [nodesB]
  | y :: r, i + 1, x, h => by simp only [List.take_succ_cons, nodesB]; have := nodesB_app r i x (by simpa using h); omega
theorem sizeE2 : ∀ (n : Nat) (x : S_api_TExpr), x.nodes < n → x.nodes < 1073741824 → ∃ r, ref20_SizeExpr n x 200 = some r ∧ 0 ≤ r ∧ r ≤ x.nodes ∧ (r ≤ 200 → r = x.nodes)
  | 0, x, h, _ => by omega
  | n + 1, x, h, hb => by
    have hn := nodes_eq x
    have hlen := nodesL_len x.Args
    show ∃ r, ref20_SizeExpr_body n (ref20_SizeExpr n) x 200 = some r ∧ 0 ≤ r ∧ r ≤ x.nodes ∧ (r ≤ 200 → r = x.nodes)
    unfold ref20_SizeExpr_body
    obtain ⟨r, h1, q, rfl, hq⟩ := iter_inv (step := ref20_SizeExpr_L1 x 200 (ref20_SizeExpr n)) (fun s => ∃ k : Nat, s.2 = k ∧ k ≤ x.Args.length ∧ 0 ≤ s.1 ∧ s.1 ≤ 1 + (nodesL (x.Args.take k) : Int) ∧ (s.1 ≤ 200 → s.1 = 1 + (nodesL (x.Args.take k) : Int))) (fun s => x.Args.length - s.2.toNat) (fun r => ∃ q, r = .go q ∧ 0 ≤ q ∧ q ≤ x.nodes ∧ (q ≤ 200 → q = x.nodes)) (fun ⟨a, b⟩ ⟨k, hk, hle, ha0, ha1, ha2⟩ => by
      simp only at hk ha0 ha1 ha2; subst hk
      unfold ref20_SizeExpr_L1
      by_cases hc : k < x.Args.length ∧ a ≤ 200
      · simp only [show (decide ((k : Int) < (x.Args.length : Int)) && decide (a ≤ 200)) = true by simp; omega, cond_true]
        have hx := List.getElem?_eq_getElem hc.1
        have := nodesL_get _ _ _ hx
        have hts := nodesL_takeS _ _ _ hx
        obtain ⟨r, hr, r0, r1, r2⟩ := sizeE2 n x.Args[k] (by omega) (by omega)
        rw [idx_get hx, hr, i64_succ (N := x.Args.length) (by omega) (by omega)]
        simp only [obind, Option.bind_some]
        rw [w64 (by omega) (by omega)]
        have hta := nodesL_app _ _ _ hx
        refine .inl ⟨_, rfl, ⟨k + 1, rfl, by omega, by simp only; omega, by simp only; omega, fun h => ?_⟩, by simp; omega⟩
        simp only at h ⊢
        have := ha2 (by omega); have := r2 (by omega); omega
      · simp only [show (decide ((k : Int) < (x.Args.length : Int)) && decide (a ≤ 200)) = false by simp; omega, cond_false]
        have htk := nodesL_take x.Args k
        refine .inr ⟨_, rfl, _, rfl, ha0, by omega, fun h => ?_⟩
        have := ha2 h
        rw [show k = x.Args.length by omega, List.take_length] at this
        omega) n (1, 0) ⟨0, rfl, by omega, by simp, by simp [nodesL], by simp [nodesL]⟩ (by simp; omega)
    rw [h1]; exact ⟨_, rfl, hq⟩
theorem nodesB_takeL : ∀ (l : List S_api_TStmt) (i : Nat), nodesB (l.take i) ≤ nodesB l
  | [], i => by simp [nodesB]
  | y :: r, 0 => by simp [nodesB]
  | y :: r, i + 1 => by simp only [List.take_succ_cons, nodesB]; have := nodesB_takeL r i; omega
theorem sizeB2 : ∀ (n : Nat) (l : List S_api_TStmt), nodesB l + 1 < n → nodesB l < 1073741824 → ∃ r, ref20_Size n l 200 = some r ∧ 0 ≤ r ∧ r ≤ nodesB l ∧ (r ≤ 200 → r = nodesB l)
  | 0, l, h, _ => by omega
  | n + 1, l, h, hb => by
    have hlen := nodesB_len l
    show ∃ r, ref20_Size_body n (ref20_Size n) l 200 = some r ∧ 0 ≤ r ∧ r ≤ nodesB l ∧ (r ≤ 200 → r = nodesB l)
    unfold ref20_Size_body
    obtain ⟨r, h1, q, rfl, hq⟩ := iter_inv (step := ref20_Size_L1 n l 200 (ref20_Size n)) (fun s => ∃ k : Nat, s.2 = k ∧ k ≤ l.length ∧ 0 ≤ s.1 ∧ s.1 ≤ (nodesB (l.take k) : Int) ∧ (s.1 ≤ 200 → s.1 = (nodesB (l.take k) : Int))) (fun s => l.length - s.2.toNat) (fun r => ∃ q, r = .go q ∧ 0 ≤ q ∧ q ≤ nodesB l ∧ (q ≤ 200 → q = nodesB l)) (fun ⟨a, b⟩ ⟨k, hk, hle, ha0, ha1, ha2⟩ => by
      simp only at hk ha0 ha1 ha2; subst hk
      unfold ref20_Size_L1
      by_cases hc : k < l.length ∧ a ≤ 200
      · simp only [show (decide ((k : Int) < (l.length : Int)) && decide (a ≤ 200)) = true by simp; omega, cond_true]
        have hx := List.getElem?_eq_getElem hc.1
        have := nodesB_get _ _ _ hx
        have hts := nodesB_takeS _ _ _ hx
        have h2 := nodesS_eq l[k]
        have h3 := nodes_eq l[k].X
        obtain ⟨r1, hr1, p0, p1, p2⟩ := sizeE2 n l[k].X (by omega) (by omega)
        obtain ⟨r2, hr2, q0, q1, q2⟩ := sizeB2 n l[k].Body (by omega) (by omega)
        obtain ⟨r3, hr3, s0, s1, s2⟩ := sizeB2 n l[k].Else (by omega) (by omega)
        rw [idx_get hx, hr1]
        simp only [obind, Option.bind_some, hr2, hr3]
        rw [i64_succ (N := l.length) (by omega) (by omega)]
        rw [w64 (x := a + 1) (by omega) (by omega), w64 (x := a + 1 + r1) (by omega) (by omega), w64 (x := a + 1 + r1 + r2) (by omega) (by omega), w64 (x := a + 1 + r1 + r2 + r3) (by omega) (by omega)]
        have hta := nodesB_app _ _ _ hx
        refine .inl ⟨_, rfl, ⟨k + 1, rfl, by omega, by simp only; omega, by simp only; omega, fun h => ?_⟩, by simp; omega⟩
        simp only at h ⊢
        have := ha2 (by omega); have := p2 (by omega); have := q2 (by omega); have := s2 (by omega); omega
      · simp only [show (decide ((k : Int) < (l.length : Int)) && decide (a ≤ 200)) = false by simp; omega, cond_false]
        have htk := nodesB_takeL l k
        refine .inr ⟨_, rfl, _, rfl, ha0, by omega, fun h => ?_⟩
        have := ha2 h
        rw [show k = l.length by omega, List.take_length] at this
        omega) n (0, 0) ⟨0, rfl, by omega, by simp, by simp [nodesB], by simp [nodesB]⟩ (by simp; omega)
    rw [h1]; exact ⟨_, rfl, hq⟩
end Go.Proofs.Ytgjdaamkfpbgpaa
namespace Go.Abs

theorem ofInt_nat {n : Nat} (k : Nat) (h : n < 2 ^ k) : (BitVec.ofInt k (n : Int)).toNat = n := by
  simp
  norm_cast
  exact Nat.mod_eq_of_lt h

theorem bitOr_shift {z x n : Nat} (hz : z < 2 ^ n) (h : z + x * 2 ^ n < 2 ^ 64) : bitOr .u64 (z : Int) ((x * 2 ^ n : Nat) : Int) = ((z + x * 2 ^ n : Nat) : Int) := by
  unfold bitOr
  have h1 : z < 2 ^ 64 := by omega
  have h2 : x * 2 ^ n < 2 ^ 64 := by omega
  have e : z ||| x * 2 ^ n = z + x * 2 ^ n := by
    have := Nat.shiftLeft_add_eq_or_of_lt hz x
    rw [Nat.shiftLeft_eq] at this
    rw [Nat.or_comm, ← this, Nat.add_comm]
  rw [BitVec.toNat_or]
  have a1 := ofInt_nat (n := z) IntKind.u64.bits h1
  have a2 := ofInt_nat (n := x * 2 ^ n) IntKind.u64.bits h2
  rw [a1, a2, e, wrap_u64 (by omega) (by omega)]
theorem bitAnd_low {c : Nat} (h : c < 256) : bitAnd .u8 (c : Int) 127 = ((c % 128 : Nat) : Int) := by
  unfold bitAnd
  rw [BitVec.toNat_and]
  have a1 := ofInt_nat (n := c) IntKind.u8.bits h
  have a2 : (BitVec.ofInt IntKind.u8.bits 127).toNat = 127 := rfl
  have e : c &&& 127 = c % 128 := Nat.and_two_pow_sub_one_eq_mod c 7
  rw [a1, a2, e, wrap_u8]
  omega
theorem bitAnd_one {z : Nat} (h : z < 2 ^ 64) : bitAnd .u64 (z : Int) 1 = ((z % 2 : Nat) : Int) := by
  unfold bitAnd
  rw [BitVec.toNat_and]
  have a1 := ofInt_nat (n := z) IntKind.u64.bits h
  have a2 : (BitVec.ofInt IntKind.u64.bits 1).toNat = 1 := rfl
  rw [a1, a2, Nat.and_one_is_mod, wrap_u64 (by omega) (by omega)]
set_option maxRecDepth 20000 in
theorem or128 : ∀ n < 256, n ||| 128 = n % 128 + 128 := by decide
theorem bitOr_high {z : Nat} : bitOr .u8 (((z % 256 : Nat)) : Int) 128 = ((z % 128 + 128 : Nat) : Int) := by
  unfold bitOr
  rw [BitVec.toNat_or]
  have a1 := ofInt_nat (n := z % 256) IntKind.u8.bits (by show _ < 256; omega)
  have a2 : (BitVec.ofInt IntKind.u8.bits 128).toNat = 128 := rfl
  rw [a1, a2, or128 _ (by omega), wrap_u8]
  have : (z % 256) % 128 = z % 128 := by omega
  rw [this]
  omega
/-- the zigzag number of an integer -/
def zig (n : Int) : Nat := if 0 ≤ n then (2 * n).toNat else (-2 * n - 1).toNat
def unzig (z : Nat) : Int := if z % 2 = 1 then -1 - (z / 2 : Nat) else (z / 2 : Nat)
theorem zig_lt {n : Int} (h1 : -9223372036854775808 ≤ n) (h2 : n ≤ 9223372036854775807) : zig n < 2 ^ 64 := by unfold zig; split <;> omega
theorem unzig_zig (n : Int) : unzig (zig n) = n := by unfold unzig zig; split <;> split <;> omega
theorem unzig_lo {z : Nat} (h : z < 2 ^ 64) : -9223372036854775808 ≤ unzig z := by unfold unzig; split <;> omega
theorem unzig_hi {z : Nat} (h : z < 2 ^ 64) : unzig z ≤ 9223372036854775807 := by unfold unzig; split <;> omega

theorem xor_zig {n : Int} (h1 : -9223372036854775808 ≤ n) (h2 : n ≤ 9223372036854775807) :
    bitXor .u64 (IntKind.u64.wrap (IntKind.u64.wrap n * 2 ^ (min (1 : Int).toNat IntKind.u64.bits))) (IntKind.u64.wrap (n.fdiv (2 ^ (min (63 : Int).toNat IntKind.i64.bits)))) = (zig n : Int) := by
  have e1 : min (1 : Int).toNat IntKind.u64.bits = 1 := rfl
  have e2 : min (63 : Int).toNat IntKind.i64.bits = 63 := rfl
  rw [e1, e2]
  by_cases hn : 0 ≤ n
  · have f1 : n.fdiv (2 ^ 63) = 0 := by rw [Int.fdiv_eq_ediv_of_nonneg _ (by omega)]; omega
    have f2 : IntKind.u64.wrap n = n := wrap_u64 hn (by omega)
    have f3 : IntKind.u64.wrap (n * 2 ^ 1) = n * 2 := wrap_u64 (by omega) (by omega)
    rw [f1, f2, f3, show IntKind.u64.wrap 0 = 0 from wrap_u64 (by omega) (by omega)]
    unfold bitXor
    rw [BitVec.toNat_xor]
    obtain ⟨m, rfl⟩ := Int.eq_ofNat_of_zero_le hn
    have a1 := ofInt_nat (n := m * 2) IntKind.u64.bits (by show _ < 2 ^ 64; omega)
    rw [show ((m : Int) * 2) = ((m * 2 : Nat) : Int) by omega, a1, show (BitVec.ofInt IntKind.u64.bits 0).toNat = 0 from rfl, Nat.xor_zero, wrap_u64 (by omega) (by omega)]
    unfold zig; rw [if_pos hn]; omega
  · have f1 : n.fdiv (2 ^ 63) = -1 := by rw [Int.fdiv_eq_ediv_of_nonneg _ (by omega)]; omega
    have f2 : IntKind.u64.wrap n = n + 18446744073709551616 := by
      unfold IntKind.wrap; simp only [IntKind.signed, IntKind.bits]; simp; omega
    have f3 : IntKind.u64.wrap ((n + 18446744073709551616) * 2 ^ 1) = n * 2 + 18446744073709551616 := by
      unfold IntKind.wrap; simp only [IntKind.signed, IntKind.bits]; simp; omega
    have f4 : IntKind.u64.wrap (-1) = 18446744073709551615 := by rfl
    rw [f1, f2, f3, f4]
    unfold bitXor
    obtain ⟨m, hm⟩ : ∃ m : Nat, n * 2 + 18446744073709551616 = (m : Int) := ⟨(n * 2 + 18446744073709551616).toNat, by omega⟩
    rw [hm]
    have hones : BitVec.ofInt IntKind.u64.bits 18446744073709551615 = BitVec.allOnes IntKind.u64.bits := by rfl
    rw [hones, BitVec.xor_allOnes, BitVec.toNat_not]
    have a1 := ofInt_nat (n := m) IntKind.u64.bits (by show _ < 2 ^ 64; omega)
    rw [a1]
    show IntKind.u64.wrap ((2 ^ 64 - 1 - m : Nat) : Int) = _
    rw [wrap_u64 (by omega) (by omega)]
    unfold zig; rw [if_neg hn]; omega
theorem unzig_xor {z : Nat} (h : z < 2 ^ 64) :
    bitXor .i64 ((z / 2 : Nat) : Int) (IntKind.i64.wrap (0 - ((z % 2 : Nat) : Int))) = unzig z := by
  have hl : z / 2 < 2 ^ 63 := by omega
  by_cases ho : z % 2 = 1
  · rw [ho]
    have f : IntKind.i64.wrap (0 - ((1 : Nat) : Int)) = -1 := by rfl
    rw [f]
    unfold bitXor
    have hones : BitVec.ofInt IntKind.i64.bits (-1) = BitVec.allOnes IntKind.i64.bits := by rfl
    rw [hones, BitVec.xor_allOnes, BitVec.toNat_not]
    have a1 := ofInt_nat (n := z / 2) IntKind.i64.bits (by show _ < 2 ^ 64; omega)
    rw [a1]
    show IntKind.i64.wrap ((2 ^ 64 - 1 - z / 2 : Nat) : Int) = _
    unfold unzig IntKind.wrap
    simp only [IntKind.signed, IntKind.bits, ho, if_pos]
    simp
    omega
  · have h0 : z % 2 = 0 := by omega
    rw [h0]
    have f : IntKind.i64.wrap (0 - ((0 : Nat) : Int)) = 0 := by rfl
    rw [f]
    unfold bitXor
    have a1 := ofInt_nat (n := z / 2) IntKind.i64.bits (by show _ < 2 ^ 64; omega)
    rw [BitVec.toNat_xor, a1, show (BitVec.ofInt IntKind.i64.bits 0).toNat = 0 from rfl, Nat.xor_zero, wrap_i64 (by omega) (by omega)]
    unfold unzig; rw [if_neg ho]

theorem shr7 (z : Nat) : (z : Int).fdiv (2 ^ (min (7 : Int).toNat IntKind.u64.bits)) = ((z / 128 : Nat) : Int) := by
  have e : min (7 : Int).toNat IntKind.u64.bits = 7 := rfl
  rw [e, Int.fdiv_eq_ediv_of_nonneg _ (by omega)]
  rfl
theorem shr1 (z : Nat) : (z : Int).fdiv (2 ^ (min (1 : Int).toNat IntKind.u64.bits)) = ((z / 2 : Nat) : Int) := by
  have e : min (1 : Int).toNat IntKind.u64.bits = 1 := rfl
  rw [e, Int.fdiv_eq_ediv_of_nonneg _ (by omega)]
  rfl
theorem toNat_ofNat8 {n : Nat} (h : n < 256) : (UInt8.ofNat n).toNat = n := by simp [UInt8.toNat_ofNat']; omega
end Go.Abs
namespace Go.Abs

def encU (z : Nat) : List UInt8 := if z < 128 then [UInt8.ofNat z] else UInt8.ofNat (z % 128 + 128) :: encU (z / 128)
termination_by z
decreasing_by omega
def encI (n : Int) : List UInt8 := encU (zig n)
def encS (s : List UInt8) : List UInt8 := encI s.length ++ s
def encL {α : Type} (one : α → List UInt8) (l : List α) : List UInt8 := encI l.length ++ l.flatMap one

theorem encU_lt {z : Nat} (h : z < 128) : encU z = [UInt8.ofNat z] := by rw [encU, if_pos h]
theorem encU_ge {z : Nat} (h : ¬ z < 128) : encU z = UInt8.ofNat (z % 128 + 128) :: encU (z / 128) := by rw [encU, if_neg h]
theorem encU_pos (z : Nat) : 1 ≤ (encU z).length := by rw [encU]; split <;> simp
theorem encU_len : ∀ (k z : Nat), z < 2 ^ (7 * (k + 1)) → (encU z).length ≤ k + 1
  | 0, z, h => by rw [encU_lt (by simpa using h)]; simp
  | k + 1, z, h => by
    by_cases h1 : z < 128
    · rw [encU_lt h1]; simp
    · rw [encU_ge h1, List.length_cons]
      have : z / 128 < 2 ^ (7 * (k + 1)) := by
        rw [Nat.div_lt_iff_lt_mul (by omega)]
        rw [show 7 * (k + 1 + 1) = 7 * (k + 1) + 7 by omega, Nat.pow_add] at h
        simpa using h
      have := encU_len k _ this
      omega
theorem encU_le10 {z : Nat} (h : z < 2 ^ 64) : (encU z).length ≤ 10 := encU_len 9 z (by omega)
theorem encI_len {n : Int} (h1 : -9223372036854775808 ≤ n) (h2 : n ≤ 9223372036854775807) : 1 ≤ (encI n).length ∧ (encI n).length ≤ 10 := ⟨encU_pos _, encU_le10 (zig_lt h1 h2)⟩

/-- a number at the beginning of bytes, k digits of it having been read: the rest of the number, how many bytes it takes, the error -/
def getU : Nat → List UInt8 → Nat × Nat × Nat
  | _, [] => (0, 0, 10)
  | k, c :: r =>
    if (k = 9 ∧ 1 < c.toNat) ∨ (0 < k ∧ c.toNat = 0) then (0, 0, 11)
    else if c.toNat < 128 then (c.toNat, 1, 0)
    else let x := getU (k + 1) r; if x.2.2 = 0 then (c.toNat - 128 + 128 * x.1, x.2.1 + 1, 0) else (0, 0, x.2.2)
def getI (b : List UInt8) : Int × Nat × Nat := let x := getU 0 b; if x.2.2 = 0 then (unzig x.1, x.2.1, 0) else (0, 0, x.2.2)
def lenD (b : List UInt8) (least : Nat) : Nat × Nat × Nat :=
  let x := getI b
  if x.2.2 ≠ 0 then (0, 0, x.2.2) else if x.1 < 0 then (0, 0, 11) else if (b.length - x.2.1) / least < x.1.toNat then (0, 0, 10) else (x.1.toNat, x.2.1, 0)
def getS (b : List UInt8) : List UInt8 × Nat × Nat :=
  let x := lenD b 1; if x.2.2 ≠ 0 then ([], 0, x.2.2) else ((b.drop x.2.1).take x.1, x.2.1 + x.1, 0)
def getN {α : Type} (one : List UInt8 → α × Nat × Nat) : Nat → List UInt8 → List α × Nat × Nat
  | 0, _ => ([], 0, 0)
  | n + 1, b => let x := one b; if x.2.2 ≠ 0 then ([], 0, x.2.2) else
    let y := getN one n (b.drop x.2.1); if y.2.2 ≠ 0 then ([], 0, y.2.2) else (x.1 :: y.1, x.2.1 + y.2.1, 0)
def getL {α : Type} (one : List UInt8 → α × Nat × Nat) (least : Nat) (b : List UInt8) : List α × Nat × Nat :=
  let x := lenD b least; if x.2.2 ≠ 0 then ([], 0, x.2.2) else
    let y := getN one x.1 (b.drop x.2.1); if y.2.2 ≠ 0 then ([], 0, y.2.2) else (y.1, x.2.1 + y.2.1, 0)
def getD (b : List UInt8) : List UInt8 × Nat × Nat := (b.take 16, 16, 0)

/-! what a decoding without error is -/
theorem getU_ok : ∀ (b : List UInt8) (k : Nat), k ≤ 9 → (getU k b).2.2 = 0 → 1 ≤ (getU k b).2.1 ∧ (getU k b).2.1 ≤ b.length ∧ (getU k b).2.1 + k ≤ 10 ∧ (getU k b).1 < 2 ^ (64 - 7 * k)
  | [], k, _, h => by simp [getU] at h
  | c :: r, k, hk, h => by
    unfold getU at h ⊢
    by_cases h1 : (k = 9 ∧ 1 < c.toNat) ∨ (0 < k ∧ c.toNat = 0)
    · rw [if_pos h1] at h; simp at h
    · rw [if_neg h1] at h ⊢
      by_cases h2 : c.toNat < 128
      · rw [if_pos h2]
        refine ⟨Nat.le_refl _, by simp, by simp; omega, ?_⟩
        simp only
        by_cases h9 : k = 9
        · subst h9
          have : ¬ 1 < c.toNat := fun h => h1 (.inl ⟨rfl, h⟩)
          simp; omega
        · have : 2 ^ 7 ≤ 2 ^ (64 - 7 * k) := Nat.pow_le_pow_right (by omega) (by omega)
          omega
      · rw [if_neg h2] at h ⊢
        have h9 : k ≠ 9 := fun e => h1 (.inl ⟨e, by omega⟩)
        simp only at h ⊢
        by_cases h3 : (getU (k + 1) r).2.2 = 0
        · obtain ⟨a1, a2, a3, a4⟩ := getU_ok r (k + 1) (by omega) h3
          rw [if_pos h3]
          refine ⟨by simp, by simp; omega, by simp; omega, ?_⟩
          simp only
          have hc := UInt8.toNat_lt c
          have e : 2 ^ (64 - 7 * k) = 128 * 2 ^ (64 - 7 * (k + 1)) := by
            rw [show 64 - 7 * k = 7 + (64 - 7 * (k + 1)) by omega, Nat.pow_add]
          rw [e]; omega
        · rw [if_neg h3] at h; simp at h; exact absurd h h3
theorem getU_err : ∀ (b : List UInt8) (k : Nat), (getU k b).2.2 ≠ 0 → (getU k b).1 = 0 ∧ (getU k b).2.1 = 0 ∧ ((getU k b).2.2 = 10 ∨ (getU k b).2.2 = 11)
  | [], k, _ => by simp [getU]
  | c :: r, k, h => by
    unfold getU at h ⊢
    by_cases h1 : (k = 9 ∧ 1 < c.toNat) ∨ (0 < k ∧ c.toNat = 0)
    · rw [if_pos h1]; simp
    · rw [if_neg h1] at h ⊢
      by_cases h2 : c.toNat < 128
      · rw [if_pos h2] at h; simp at h
      · rw [if_neg h2] at h ⊢
        simp only at h ⊢
        by_cases h3 : (getU (k + 1) r).2.2 = 0
        · rw [if_pos h3] at h; simp at h
        · rw [if_neg h3]
          exact ⟨rfl, rfl, (getU_err r (k + 1) h3).2.2⟩
theorem getI_ok {b : List UInt8} (h : (getI b).2.2 = 0) : 1 ≤ (getI b).2.1 ∧ (getI b).2.1 ≤ b.length ∧ (getI b).2.1 ≤ 10 ∧ -9223372036854775808 ≤ (getI b).1 ∧ (getI b).1 ≤ 9223372036854775807 := by
  unfold getI at h ⊢
  simp only at h ⊢
  by_cases h1 : (getU 0 b).2.2 = 0
  · obtain ⟨a1, a2, a3, a4⟩ := getU_ok b 0 (by omega) h1
    rw [if_pos h1]
    exact ⟨a1, a2, a3, unzig_lo (by simpa using a4), unzig_hi (by simpa using a4)⟩
  · rw [if_neg h1] at h; exact absurd h h1
theorem getI_err {b : List UInt8} (h : (getI b).2.2 ≠ 0) : getI b = (0, 0, (getI b).2.2) := by
  unfold getI at h ⊢
  simp only at h ⊢
  by_cases h1 : (getU 0 b).2.2 = 0
  · rw [if_pos h1] at h; exact absurd rfl h
  · rw [if_neg h1]
theorem getI_any (b : List UInt8) : (getI b).2.1 ≤ b.length ∧ (getI b).2.1 ≤ 10 ∧ -9223372036854775808 ≤ (getI b).1 ∧ (getI b).1 ≤ 9223372036854775807 := by
  by_cases h : (getI b).2.2 = 0
  · exact ⟨(getI_ok h).2.1, (getI_ok h).2.2⟩
  · rw [getI_err h]; simp
theorem lenD_ok {b : List UInt8} {least : Nat} (hl : 0 < least) (h : (lenD b least).2.2 = 0) : (lenD b least).2.1 + (lenD b least).1 * least ≤ b.length ∧ 1 ≤ (lenD b least).2.1 := by
  unfold lenD at h ⊢
  simp only at h ⊢
  by_cases h1 : (getI b).2.2 ≠ 0
  · rw [if_pos h1] at h; exact absurd h h1
  · rw [if_neg h1] at h ⊢
    have h1' : (getI b).2.2 = 0 := by omega
    obtain ⟨a1, a2, a3, a4, a5⟩ := getI_ok h1'
    by_cases h2 : (getI b).1 < 0
    · rw [if_pos h2] at h; simp at h
    · rw [if_neg h2] at h ⊢
      by_cases h3 : (b.length - (getI b).2.1) / least < (getI b).1.toNat
      · rw [if_pos h3] at h; simp at h
      · rw [if_neg h3]
        simp only
        have h4 : (getI b).1.toNat ≤ (b.length - (getI b).2.1) / least := by omega
        have h5 := (Nat.le_div_iff_mul_le hl).1 h4
        omega
theorem lenD_any {b : List UInt8} {least : Nat} (hl : 0 < least) : (lenD b least).2.1 + (lenD b least).1 * least ≤ b.length := by
  by_cases h : (lenD b least).2.2 = 0
  · exact (lenD_ok hl h).1
  · unfold lenD at h ⊢
    simp only at h ⊢
    by_cases h1 : (getI b).2.2 ≠ 0
    · rw [if_pos h1]; simp
    · rw [if_neg h1] at h ⊢
      by_cases h2 : (getI b).1 < 0
      · rw [if_pos h2]; simp
      · rw [if_neg h2] at h ⊢
        by_cases h3 : (b.length - (getI b).2.1) / least < (getI b).1.toNat
        · rw [if_pos h3]; simp
        · rw [if_neg h3] at h; exact absurd rfl h
theorem getS_ok {b : List UInt8} (h : (getS b).2.2 = 0) : (getS b).2.1 ≤ b.length ∧ 1 ≤ (getS b).2.1 ∧ (getS b).1.length ≤ b.length := by
  unfold getS at h ⊢
  simp only at h ⊢
  by_cases h1 : (lenD b 1).2.2 ≠ 0
  · rw [if_pos h1] at h; exact absurd h h1
  · rw [if_neg h1]
    obtain ⟨a, c⟩ := lenD_ok (by omega) (by omega : (lenD b 1).2.2 = 0)
    simp; omega
theorem getS_any (b : List UInt8) : (getS b).2.1 ≤ b.length ∧ (getS b).1.length ≤ b.length := by
  by_cases h : (getS b).2.2 = 0
  · exact ⟨(getS_ok h).1, (getS_ok h).2.2⟩
  · unfold getS at h ⊢
    simp only at h ⊢
    by_cases h1 : (lenD b 1).2.2 ≠ 0
    · rw [if_pos h1]; simp
    · rw [if_neg h1] at h; exact absurd rfl h

/-! reading digit by digit -/
def finU (k z : Nat) (x : Nat × Nat × Nat) : Nat × Nat × Nat := if x.2.2 = 0 then (z + 2 ^ (7 * k) * x.1, k + x.2.1, 0) else (0, 0, x.2.2)
theorem finU_start (b : List UInt8) : finU 0 0 (getU 0 b) = getU 0 b := by
  unfold finU
  by_cases h : (getU 0 b).2.2 = 0
  · rw [if_pos h]; simp [Prod.ext_iff, h]
  · rw [if_neg h]
    obtain ⟨a1, a2, _⟩ := getU_err b 0 h
    simp [Prod.ext_iff, a1, a2]
theorem getU_bad {k : Nat} {c : UInt8} {r : List UInt8} (h : (k = 9 ∧ 1 < c.toNat) ∨ (0 < k ∧ c.toNat = 0)) : getU k (c :: r) = (0, 0, 11) := by unfold getU; rw [if_pos h]
theorem getU_last {k : Nat} {c : UInt8} {r : List UInt8} (h : ¬ ((k = 9 ∧ 1 < c.toNat) ∨ (0 < k ∧ c.toNat = 0))) (h2 : c.toNat < 128) : getU k (c :: r) = (c.toNat, 1, 0) := by unfold getU; rw [if_neg h, if_pos h2]
theorem finU_step {k z : Nat} {c : UInt8} {r : List UInt8} (h : ¬ ((k = 9 ∧ 1 < c.toNat) ∨ (0 < k ∧ c.toNat = 0))) (h2 : ¬ c.toNat < 128) :
    finU k z (getU k (c :: r)) = finU (k + 1) (z + (c.toNat % 128) * 2 ^ (7 * k)) (getU (k + 1) r) := by
  have hc := UInt8.toNat_lt c
  have e : c.toNat % 128 = c.toNat - 128 := by omega
  rw [getU, if_neg h, if_neg h2]
  simp only [finU]
  by_cases h3 : (getU (k + 1) r).2.2 = 0
  · rw [if_pos h3, if_pos h3]
    simp only [if_pos]
    rw [e, show 7 * (k + 1) = 7 * k + 7 by omega, Nat.pow_add]
    have : 2 ^ (7 * k) * (c.toNat - 128 + 128 * (getU (k + 1) r).1) = (c.toNat - 128) * 2 ^ (7 * k) + 2 ^ (7 * k) * 2 ^ 7 * (getU (k + 1) r).1 := by
      rw [Nat.mul_add, Nat.mul_comm _ (c.toNat - 128), Nat.mul_assoc (2 ^ (7 * k)) (2 ^ 7)]
    rw [this]
    ext <;> simp <;> omega
  · rw [if_neg h3, if_neg h3]
    simp [h3]

/-! encoding element by element -/
theorem flat_takeW {α : Type} (one : α → List UInt8) {l : List α} {i : Nat} (h : i < l.length) : (l.take (i + 1)).flatMap one = (l.take i).flatMap one ++ one l[i] := by
  rw [List.take_succ_eq_append_getElem h, List.flatMap_append]; simp
theorem sum_take {l : List (List UInt8)} {i : Nat} (h : i < l.length) : ((l.take (i + 1)).map List.length).sum = ((l.take i).map List.length).sum + l[i].length := by
  rw [List.take_succ_eq_append_getElem h, List.map_append, List.sum_append]; simp
theorem sum_le {l : List (List UInt8)} {i : Nat} (h : i < l.length) : ((l.take i).map List.length).sum + l[i].length ≤ (l.map List.length).sum := by
  rw [← sum_take h]
  conv => rhs; rw [← List.take_append_drop (i + 1) l, List.map_append, List.sum_append]
  omega

/-! decoding an integer, as the two programs do -/
theorem drop_cons {b : List UInt8} {k : Nat} (h : k < b.length) : b.drop k = b[k] :: b.drop (k + 1) := List.drop_eq_getElem_cons h
theorem getI_bad {b : List UInt8} {k z e : Nat} (hi : finU k z (getU k (b.drop k)) = getU 0 b) (h : getU k (b.drop k) = (0, 0, e)) (he : e ≠ 0) : getI b = (0, 0, e) := by
  unfold getI
  rw [← hi, h]
  simp [finU, he]
theorem getI_good {b : List UInt8} {k z c : Nat} (hi : finU k z (getU k (b.drop k)) = getU 0 b) (h : getU k (b.drop k) = (c, 1, 0)) : getI b = (unzig (z + c * 2 ^ (7 * k)), k + 1, 0) := by
  unfold getI
  rw [← hi, h]
  simp [finU, Nat.mul_comm]
theorem dig_lt {k z c : Nat} (hk : k ≤ 9) (hz : z < 2 ^ (7 * k)) (h9 : k = 9 → c ≤ 1) : z + (c % 128) * 2 ^ (7 * k) < 2 ^ 64 := by
  by_cases h : k = 9
  · subst h
    have := h9 rfl
    have h2 : c % 128 ≤ 1 := by omega
    have : (c % 128) * 2 ^ (7 * 9) ≤ 1 * 2 ^ (7 * 9) := Nat.mul_le_mul_right _ h2
    omega
  · have h1 : 2 ^ (7 * k) ≤ 2 ^ 56 := Nat.pow_le_pow_right (by omega) (by omega)
    have h2 : c % 128 ≤ 127 := by omega
    have h3 : (c % 128) * 2 ^ (7 * k) ≤ 127 * 2 ^ (7 * k) := Nat.mul_le_mul_right _ h2
    omega
theorem dig_lt2 {k z c : Nat} (hz : z < 2 ^ (7 * k)) : z + (c % 128) * 2 ^ (7 * k) < 2 ^ (7 * (k + 1)) := by
  have h2 : c % 128 ≤ 127 := by omega
  have h3 : (c % 128) * 2 ^ (7 * k) ≤ 127 * 2 ^ (7 * k) := Nat.mul_le_mul_right _ h2
  rw [show 7 * (k + 1) = 7 * k + 7 by omega, Nat.pow_add]
  omega
theorem shl7 {k x : Nat} (hk : k ≤ 9) (h : x * 2 ^ (7 * k) < 2 ^ 64) : IntKind.u64.wrap ((x : Int) * 2 ^ (min (((7 * k : Nat) : Int)).toNat IntKind.u64.bits)) = ((x * 2 ^ (7 * k) : Nat) : Int) := by
  have e : min (((7 * k : Nat) : Int)).toNat IntKind.u64.bits = 7 * k := by
    rw [Int.toNat_natCast]; show min (7 * k) 64 = _; omega
  rw [e, show ((x : Int) * 2 ^ (7 * k)) = ((x * 2 ^ (7 * k) : Nat) : Int) by simp [Int.natCast_mul, Int.natCast_pow], wrap_u64 (by omega) (by omega)]

theorem getU_skip : ∀ (k s : Nat) (b : List UInt8) (e : Nat), (∀ j, j < k → ∃ c, b[j]? = some c ∧ 128 ≤ c.toNat) → s + k ≤ 9 → (getU (s + k) (b.drop k)).2.2 = e → e ≠ 0 → getU s b = (0, 0, e)
  | 0, s, b, e, _, _, h, he => by
    rw [List.drop_zero, Nat.add_zero] at h
    obtain ⟨a1, a2, _⟩ := getU_err b s (by rw [h]; exact he)
    simp [Prod.ext_iff, a1, a2, h]
  | k + 1, s, b, e, hb, hs, h, he => by
    obtain ⟨c, hc, h128⟩ := hb 0 (by omega)
    cases b with
    | nil => simp at hc
    | cons c' r =>
      simp at hc; subst hc
      have ih := getU_skip k (s + 1) r e (fun j hj => by obtain ⟨c, h1, h2⟩ := hb (j + 1) (by omega); exact ⟨c, by simpa using h1, h2⟩) (by omega)
        (by rw [show s + 1 + k = s + (k + 1) by omega]; simpa using h) he
      rw [getU, if_neg (by omega), if_neg (by omega)]
      simp [ih, he]
/-- what stands behind k digits that go on -/
def More (b : List UInt8) (k : Nat) : Prop := ∀ j, j < k → ∃ c, b[j]? = some c ∧ 128 ≤ c.toNat
theorem More.zero (b : List UInt8) : More b 0 := fun j h => absurd h (by omega)
theorem More.succ {b : List UInt8} {k : Nat} (h : More b k) (hk : k < b.length) (hc : 128 ≤ b[k].toNat) : More b (k + 1) := by
  intro j hj
  by_cases e : j = k
  · subst e; exact ⟨b[j], List.getElem?_eq_getElem hk, hc⟩
  · exact h j (by omega)
theorem More.skip {b : List UInt8} {k e : Nat} (h : More b k) (hk : k ≤ 9) (he : getU k (b.drop k) = (0, 0, e)) (h0 : e ≠ 0) : getI b = (0, 0, e) := by
  have := getU_skip k 0 b e h (by omega) (by rw [Nat.zero_add, he]) h0
  unfold getI
  rw [this]; simp [h0]
theorem More.stop {b : List UInt8} (h : More b b.length) (hl : b.length ≤ 9) : getI b = (0, 0, 10) :=
  More.skip h hl (by rw [List.drop_eq_nil_of_le (by omega)]; rfl) (by decide)
end Go.Abs
namespace Go.Abs
variable {α : Type} {one : List UInt8 → α × Nat × Nat} {b : List UInt8} {m at_ i n : Nat} {o : List α}
end Go.Abs
namespace Go.Abs
/-! how long a decoded list is, and how much it takes -/
theorem getN_len {α : Type} {one : List UInt8 → α × Nat × Nat} : ∀ (n : Nat) (b : List UInt8), (getN one n b).1.length ≤ n
  | 0, b => by simp [getN]
  | n + 1, b => by
    have ih := getN_len (one := one) n (b.drop (one b).2.1)
    unfold getN
    by_cases h1 : (one b).2.2 = 0 <;> by_cases h2 : (getN one n (b.drop (one b).2.1)).2.2 = 0 <;> simp [h1, h2, ih]
theorem getN_used {α : Type} {one : List UInt8 → α × Nat × Nat} (ho : ∀ b, (one b).2.1 ≤ b.length) : ∀ (n : Nat) (b : List UInt8), (getN one n b).2.1 ≤ b.length
  | 0, b => by simp [getN]
  | n + 1, b => by
    have ih := getN_used ho n (b.drop (one b).2.1)
    have h := ho b
    rw [List.length_drop] at ih
    unfold getN
    by_cases h1 : (one b).2.2 = 0 <;> by_cases h2 : (getN one n (b.drop (one b).2.1)).2.2 = 0 <;> simp [h1, h2] <;> omega
theorem getL_any {α : Type} {one : List UInt8 → α × Nat × Nat} {m : Nat} (hm : 0 < m) (ho : ∀ b, (one b).2.1 ≤ b.length) (b : List UInt8) : (getL one m b).1.length ≤ b.length ∧ (getL one m b).2.1 ≤ b.length := by
  have h := lenD_any (b := b) hm
  have h3 := getN_len (one := one) (lenD b m).1 (b.drop (lenD b m).2.1)
  have h4 := getN_used ho (lenD b m).1 (b.drop (lenD b m).2.1)
  have h5 : (lenD b m).1 ≤ (lenD b m).1 * m := Nat.le_mul_of_pos_right _ hm
  rw [List.length_drop] at h4
  unfold getL
  by_cases h1 : (lenD b m).2.2 = 0 <;> by_cases h2 : (getN one (lenD b m).1 (b.drop (lenD b m).2.1)).2.2 = 0 <;> simp [h1, h2] <;> omega
theorem getLI_any (b : List UInt8) : (getL getI 1 b).1.length ≤ b.length ∧ (getL getI 1 b).2.1 ≤ b.length := getL_any (by decide) (fun b => (getI_any b).1) b
theorem getLS_any (b : List UInt8) : (getL getS 1 b).1.length ≤ b.length ∧ (getL getS 1 b).2.1 ≤ b.length := getL_any (by decide) (fun b => (getS_any b).1) b
end Go.Abs
namespace Go.Abs
theorem getU_enc : ∀ (m z k : Nat) (t : List UInt8), z ≤ m → k ≤ 9 → z < 2 ^ (64 - 7 * k) → (0 < k → z ≠ 0) → getU k (encU z ++ t) = (z, (encU z).length, 0) := by
  intro m
  induction m with
  | zero =>
    intro z k t hm hk hz h0
    have : z = 0 := by omega
    subst this
    rw [encU_lt (by decide), List.singleton_append, getU_last _ (by decide)]
    · rfl
    · rintro (⟨_, h⟩ | ⟨h, _⟩)
      · revert h; decide
      · exact h0 h rfl
  | succ m ih =>
    intro z k t hm hk hz h0
    by_cases h : z < 128
    · have e : (UInt8.ofNat z).toNat = z := toNat_ofNat8 (by omega)
      rw [encU_lt h, List.singleton_append, getU_last _ (by omega), e]
      · rfl
      · rw [e]
        rintro (⟨h9, h1⟩ | ⟨h1, h2⟩)
        · subst h9; simp at hz; omega
        · exact h0 h1 h2
    · have h9 : k ≠ 9 := by rintro rfl; simp at hz; omega
      have e : (UInt8.ofNat (z % 128 + 128)).toNat = z % 128 + 128 := toNat_ofNat8 (by omega)
      have hz2 : z / 128 < 2 ^ (64 - 7 * (k + 1)) := by
        rw [Nat.div_lt_iff_lt_mul (by omega)]
        rw [show 64 - 7 * k = (64 - 7 * (k + 1)) + 7 by omega, Nat.pow_add] at hz
        omega
      have := ih (z / 128) (k + 1) t (by omega) (by omega) hz2 (by omega)
      rw [encU_ge h, List.cons_append, getU, if_neg (by rw [e]; omega), if_neg (by rw [e]; omega), this, e]
      simp only [if_pos, List.length_cons]
      ext <;> simp; omega
theorem getI_enc {n : Int} (h1 : -9223372036854775808 ≤ n) (h2 : n ≤ 9223372036854775807) (t : List UInt8) : getI (encI n ++ t) = (n, (encI n).length, 0) := by
  have h := getU_enc (zig n) (zig n) 0 t (Nat.le_refl _) (by omega) (by have := zig_lt h1 h2; omega) (by omega)
  unfold getI encI
  rw [h]
  simp [unzig_zig]
theorem lenD_enc {n least : Nat} (hn : n ≤ 9223372036854775807) (hl : 0 < least) {t : List UInt8} (ht : n * least ≤ t.length) : lenD (encI n ++ t) least = (n, (encI n).length, 0) := by
  have h := getI_enc (n := (n : Int)) (by omega) (by omega) t
  have hd : ¬ (t.length / least < n) := by
    rw [Nat.div_lt_iff_lt_mul hl]; omega
  unfold lenD
  simp only [h]
  rw [if_neg (by omega), if_neg (by omega), if_neg (by rw [List.length_append, Nat.add_sub_cancel_left, Int.toNat_natCast]; exact hd)]
  simp
theorem getS_enc {s : List UInt8} (hs : s.length ≤ 9223372036854775807) (t : List UInt8) : getS (encS s ++ t) = (s, (encS s).length, 0) := by
  have h := lenD_enc (n := s.length) (least := 1) hs (by omega) (t := s ++ t) (by rw [List.length_append]; omega)
  unfold getS encS
  rw [List.append_assoc, h]
  simp
theorem getN_enc {α : Type} {one : List UInt8 → α × Nat × Nat} {enc : α → List UInt8} : ∀ (l : List α) (t : List UInt8), (∀ x ∈ l, ∀ t, one (enc x ++ t) = (x, (enc x).length, 0)) →
    getN one l.length (l.flatMap enc ++ t) = (l, (l.flatMap enc).length, 0)
  | [], t, _ => by simp [getN]
  | x :: l, t, h => by
    have ih := getN_enc l t (fun y hy => h y (List.mem_cons_of_mem _ hy))
    have hx := h x (List.mem_cons_self ..) (l.flatMap enc ++ t)
    rw [List.flatMap_cons, List.append_assoc, List.length_cons, getN]
    simp only [hx]
    simp [ih]
theorem flat_ge {α : Type} {enc : α → List UInt8} {m : Nat} : ∀ (l : List α), (∀ x ∈ l, m ≤ (enc x).length) → l.length * m ≤ (l.flatMap enc).length
  | [], _ => by simp
  | x :: l, h => by
    have ih := flat_ge l (fun y hy => h y (List.mem_cons_of_mem _ hy))
    have hx := h x (List.mem_cons_self ..)
    rw [List.flatMap_cons, List.length_append, List.length_cons, Nat.succ_mul]
    omega
theorem getL_enc {α : Type} {one : List UInt8 → α × Nat × Nat} {enc : α → List UInt8} {m : Nat} (hm : 0 < m) (l : List α) (t : List UInt8) (hl : l.length ≤ 9223372036854775807) (hlen : ∀ x ∈ l, m ≤ (enc x).length)
    (h : ∀ x ∈ l, ∀ t, one (enc x ++ t) = (x, (enc x).length, 0)) : getL one m (encL enc l ++ t) = (l, (encL enc l).length, 0) := by
  have h1 := lenD_enc (n := l.length) (least := m) hl hm (t := l.flatMap enc ++ t) (by have := flat_ge l hlen; rw [List.length_append]; omega)
  have h2 := getN_enc l t h
  unfold getL encL
  rw [List.append_assoc, h1]
  simp [h2]
theorem encS_ge (s : List UInt8) : 1 ≤ (encS s).length := by have := encU_pos (zig s.length); unfold encS encI; rw [List.length_append]; omega
theorem getLI_enc (l : List Int) (t : List UInt8) (hl : l.length ≤ 9223372036854775807) (hn : ∀ n ∈ l, -9223372036854775808 ≤ n ∧ n ≤ 9223372036854775807) : getL getI 1 (encL encI l ++ t) = (l, (encL encI l).length, 0) :=
  getL_enc (by decide) l t hl (fun x _ => encU_pos _) (fun x hx t => getI_enc (hn x hx).1 (hn x hx).2 t)
theorem getLS_enc (l : List (List UInt8)) (t : List UInt8) (hl : l.length ≤ 9223372036854775807) (hn : ∀ s ∈ l, s.length ≤ 9223372036854775807) : getL getS 1 (encL encS l ++ t) = (l, (encL encS l).length, 0) :=
  getL_enc (by decide) l t hl (fun x _ => encS_ge _) (fun x hx t => getS_enc (hn x hx) t)
/-! how long encodings are -/
end Go.Abs
namespace Go.Abs
/-! what is in a decoded list -/
end Go.Abs
namespace Go.Proofs.Ytgjdaamkfpbgpaa
open Go.Abs
set_option linter.unusedVariables false
set_option linter.unusedSimpArgs false

theorem int_loop : ∀ (k n Z : Nat) (out : List UInt8), Z < 2 ^ (7 * (k + 1)) → k < n → out.length + k < 1073741824 →
    ∃ (z' : Nat) (pre : List UInt8), iter wire_Int_L1 n ((Z : Int), out) = some (.go ((z' : Int), out ++ pre)) ∧ z' < 128 ∧ encU Z = pre ++ [UInt8.ofNat z'] ∧ pre.length ≤ k
  | k, 0, Z, out, hZ, hn, hl => by omega
  | k, n + 1, Z, out, hZ, hn, hl => by
    by_cases h : Z < 128
    · refine ⟨Z, [], ?_, h, by rw [encU_lt h]; rfl, by simp⟩
      have hs : wire_Int_L1 ((Z : Int), out) = some (.stop (.go ((Z : Int), out))) := by
        unfold wire_Int_L1
        simp only [show decide ((127 : Int) < (Z : Int)) = false by simp; omega, cond_false]
      rw [iter_stop hs]; simp
    · cases k with
      | zero => simp at hZ; omega
      | succ k =>
        have hs : wire_Int_L1 ((Z : Int), out) = some (.go (((Z / 128 : Nat) : Int), out ++ [UInt8.ofNat (Z % 128 + 128)])) := by
          unfold wire_Int_L1
          simp only [show decide ((127 : Int) < (Z : Int)) = true by simp; omega, cond_true]
          have hb : bitOr .u8 (IntKind.u8.wrap (Z : Int)) 128 = ((Z % 128 + 128 : Nat) : Int) := by
            rw [show IntKind.u8.wrap (Z : Int) = ((Z % 256 : Nat) : Int) by rw [wrap_u8]; rfl]; exact bitOr_high
          rw [hb, need_pos (by omega), need_pos (by simp; omega), shr7]
          simp only [Int.toNat_natCast, Nat.toUInt8]
        have hZ2 : Z / 128 < 2 ^ (7 * (k + 1)) := by
          rw [Nat.div_lt_iff_lt_mul (by omega)]
          rw [show 7 * (k + 1 + 1) = 7 * (k + 1) + 7 by omega, Nat.pow_add] at hZ
          simpa using hZ
        obtain ⟨z', pre, h1, h2, h3, h4⟩ := int_loop k n (Z / 128) (out ++ [UInt8.ofNat (Z % 128 + 128)]) hZ2 (by omega) (by simp; omega)
        exact ⟨z', UInt8.ofNat (Z % 128 + 128) :: pre, by rw [iter_go hs, h1]; simp, h2, by rw [encU_ge h, h3]; simp, by simp; omega⟩
theorem int_enc {n : Nat} {v : Int} (hn : 10 < n) (h1 : -9223372036854775808 ≤ v) (h2 : v ≤ 9223372036854775807) : wire_Int n v = some (encI v) := by
  unfold wire_Int
  rw [xor_zig h1 h2]
  obtain ⟨z', pre, e1, e2, e3, e4⟩ := int_loop 9 n (zig v) [] (by have := zig_lt h1 h2; exact Nat.lt_of_lt_of_le this (by decide)) (by omega) (by simp)
  rw [e1]
  simp only [bindJ_go, List.nil_append]
  have hw : (IntKind.u8.wrap (z' : Int)).toNat.toUInt8 = UInt8.ofNat z' := by
    rw [wrap_u8, show ((z' : Int) % 256) = (z' : Int) by omega]; simp
  rw [need_pos (by simp; omega), hw]
  unfold encI
  rw [e3]
theorem bytes_enc {n : Nat} {s : List UInt8} (hn : 10 < n) (h : s.length < 1073741824) : wire_Bytes n s = some (encS s) := by
  unfold wire_Bytes
  have := (encI_len (n := (s.length : Int)) (by omega) (by omega)).2
  rw [int_enc hn (by omega) (by omega)]
  simp only [obind, Option.bind_some]
  rw [need_pos (by omega)]; rfl
theorem w_suc {k N : Nat} (h : k ≤ N) (hN : N ≤ 1073741824) : IntKind.i64.wrap ((k : Int) + 1) = ((k + 1 : Nat) : Int) := by rw [w64 (by omega) (by omega)]; try omega
theorem flat_len {α : Type} {one : α → List UInt8} (l : List α) {i : Nat} (h : i < l.length) : ((l.take i).flatMap one).length + (one l[i]).length ≤ (l.flatMap one).length := by
  have h1 : l.flatMap one = (l.take i).flatMap one ++ (one l[i] ++ (l.drop (i + 1)).flatMap one) := by
    rw [← List.append_assoc, ← flat_takeW one h, ← List.flatMap_append, List.take_append_drop]
  rw [h1]; simp
theorem iter_list {α T R : Type} {step : T → Option (Lp T R)} {l : List α} (mk : Nat → T) (r : R)
    (hgo : ∀ (i : Nat) (h : i < l.length), step (mk i) = some (.go (mk (i + 1)))) (hend : step (mk l.length) = some (.stop r)) :
    ∀ (n i : Nat), i ≤ l.length → l.length - i < n → iter step n (mk i) = some r
  | 0, i, _, h => by omega
  | n + 1, i, hle, h => by
    by_cases e : i = l.length
    · subst e; exact iter_stop hend
    · rw [iter_go (hgo i (by omega))]
      exact iter_list mk r hgo hend n (i + 1) (by omega) (by omega)
theorem ints_enc {n : Nat} {l : List Int} (hn : 10 < n) (hln : l.length < n) (h1 : ∀ v ∈ l, -9223372036854775808 ≤ v ∧ v ≤ 9223372036854775807) (hl : (l.flatMap encI).length < 1073741800) (hl2 : l.length < 1073741800) : wire_Ints n l = some (encL encI l) := by
  have hq := (encI_len (n := (l.length : Int)) (by omega) (by omega)).2
  have h := iter_list (l := l) (step := wire_list_int_51_L1 n l) (fun i => (encI l.length ++ (l.take i).flatMap encI, (i : Int))) (.go (encL encI l)) (fun i hi => by
    unfold wire_list_int_51_L1
    simp only [show decide ((i : Int) < (l.length : Int)) = true by simp; omega, cond_true]
    have := flat_len (one := encI) l hi
    rw [idx_get' hi, int_enc hn (h1 _ (List.getElem_mem hi)).1 (h1 _ (List.getElem_mem hi)).2]
    simp only [obind, Option.bind_some]
    rw [need_pos (by simp only [List.length_append]; omega), w_suc (N := l.length) (by omega) (by omega), flat_takeW encI hi]
    simp) (by unfold wire_list_int_51_L1; simp [encL]) n 0 (by omega) (by omega)
  simp only [List.take_zero, List.flatMap_nil, List.append_nil] at h
  unfold wire_Ints wire_list_int_51
  rw [int_enc hn (by omega) (by omega)]
  simp only [obind, Option.bind_some]
  have h' : iter (wire_list_int_51_L1 n l) n (encI l.length, 0) = some (.go (encL encI l)) := h
  rw [h']; rfl
theorem strings_enc {n : Nat} {l : List (List UInt8)} (hn : 10 < n) (hln : l.length < n) (h1 : ∀ v ∈ l, v.length < 1073741824) (hl : (l.flatMap encS).length < 1073741800) (hl2 : l.length < 1073741800) : wire_Strings n l = some (encL encS l) := by
  have hq := (encI_len (n := (l.length : Int)) (by omega) (by omega)).2
  have h := iter_list (l := l) (step := wire_list_string_49_L1 n l) (fun i => (encI l.length ++ (l.take i).flatMap encS, (i : Int))) (.go (encL encS l)) (fun i hi => by
    unfold wire_list_string_49_L1
    simp only [show decide ((i : Int) < (l.length : Int)) = true by simp; omega, cond_true]
    have := flat_len (one := encS) l hi
    rw [idx_get' hi, bytes_enc hn (h1 _ (List.getElem_mem hi))]
    simp only [obind, Option.bind_some]
    rw [need_pos (by simp only [List.length_append]; omega), w_suc (N := l.length) (by omega) (by omega), flat_takeW encS hi]
    simp) (by unfold wire_list_string_49_L1; simp [encL]) n 0 (by omega) (by omega)
  simp only [List.take_zero, List.flatMap_nil, List.append_nil] at h
  unfold wire_Strings wire_list_string_49
  rw [int_enc hn (by omega) (by omega)]
  simp only [obind, Option.bind_some]
  have h' : iter (wire_list_string_49_L1 n l) n (encI l.length, 0) = some (.go (encL encS l)) := h
  rw [h']; rfl
end Go.Proofs.Ytgjdaamkfpbgpaa
namespace Go.Proofs.Ytgjdaamkfpbgpaa
open Go.Abs
set_option linter.unusedVariables false
set_option linter.unusedSimpArgs false

def triI (x : Int × Nat × Nat) : Int × Int × Int := (x.1, (x.2.1 : Int), (x.2.2 : Int))
def gcont : Int × Int → Option (Int × Int × Int) := fun (z_1, used_2) =>
  cond (decide (used_2 = 0))
   (some (0, 0, 10))
   (some ((bitXor .i64 (IntKind.i64.wrap (Int.fdiv z_1 (2 ^ (min ((1 : Int).toNat) IntKind.u64.bits)))) (IntKind.i64.wrap (0 - (IntKind.i64.wrap (bitAnd .u64 z_1 1))))), used_2, 0))
theorem gcont_ok {z k : Nat} (hz : z < 2 ^ 64) : gcont ((z : Int), ((k + 1 : Nat) : Int)) = some (unzig z, ((k + 1 : Nat) : Int), 0) := by
  unfold gcont
  simp only [show decide (((k + 1 : Nat) : Int) = 0) = false by simp; omega, cond_false]
  rw [shr1, bitAnd_one hz, w64 (by omega) (by omega), w64 (x := ((z % 2 : Nat) : Int)) (by omega) (by omega), unzig_xor hz]
theorem get_loop (b : List UInt8) (hb : b.length < 1073741824) : ∀ (n k z : Nat), b.length - k < n → k ≤ b.length → k ≤ 9 → z < 2 ^ (7 * k) → finU k z (getU k (b.drop k)) = getU 0 b →
    bindJ (iter (wire_GetInt_L1 b) n ((z : Int), (k : Int))) gcont = some (triI (getI b))
  | 0, k, z, h, _, _, _, _ => by omega
  | n + 1, k, z, h, hk, h9, hz, hi => by
    by_cases hlt : k < b.length
    · have hd := drop_cons hlt
      have hc := UInt8.toNat_lt b[k]
      have hstep : wire_GetInt_L1 b ((z : Int), (k : Int)) = cond (decide ((k = 9 ∧ 1 < b[k].toNat) ∨ (0 < k ∧ b[k].toNat = 0))) (some (.stop (.stop (0, 0, 11)))) (cond (decide (b[k].toNat < 128))
          (some (.stop (.go ((bitOr .u64 (z : Int) (IntKind.u64.wrap ((IntKind.u64.wrap (bitAnd .u8 ((b[k]).toNat : Int) 127)) * 2 ^ (min (((7 * k : Nat) : Int)).toNat IntKind.u64.bits)))), ((k + 1 : Nat) : Int)))))
          (some (.go ((bitOr .u64 (z : Int) (IntKind.u64.wrap ((IntKind.u64.wrap (bitAnd .u8 ((b[k]).toNat : Int) 127)) * 2 ^ (min (((7 * k : Nat) : Int)).toNat IntKind.u64.bits)))), ((k + 1 : Nat) : Int))))) := by
        unfold wire_GetInt_L1
        simp only [show decide ((k : Int) < (b.length : Int)) = true by simp; omega, cond_true]
        rw [idx_get' hlt, show IntKind.i64.wrap (7 * (k : Int)) = ((7 * k : Nat) : Int) by rw [w64 (by omega) (by omega)]; omega, w_suc (N := b.length) (by omega) (by omega), need_pos (by omega)]
        have e1 : decide ((b[k].toNat : Int) < 128) = decide (b[k].toNat < 128) := by congr 1; exact propext (by omega)
        rw [e1]
        by_cases h1 : k = 9 ∧ 1 < b[k].toNat
        · rw [decide_eq_true (Or.inl h1 : (k = 9 ∧ 1 < b[k].toNat) ∨ (0 < k ∧ b[k].toNat = 0))]
          simp only [show (decide ((k : Int) = 9) && decide (1 < (b[k].toNat : Int))) = true by simp; omega, cond_true, bindJ_go]
        · simp only [show (decide ((k : Int) = 9) && decide (1 < (b[k].toNat : Int))) = false by simp; omega, cond_false, bindJ_go]
          rw [show (decide (0 < (k : Int)) && decide ((b[k].toNat : Int) = 0)) = decide ((k = 9 ∧ 1 < b[k].toNat) ∨ (0 < k ∧ b[k].toNat = 0)) by
            by_cases h2 : 0 < k ∧ b[k].toNat = 0
            · rw [decide_eq_true (Or.inr h2)]; simp; omega
            · rw [decide_eq_false (by omega : ¬ ((k = 9 ∧ 1 < b[k].toNat) ∨ (0 < k ∧ b[k].toNat = 0)))]; simp; omega]
      by_cases hbad : (k = 9 ∧ 1 < b[k].toNat) ∨ (0 < k ∧ b[k].toNat = 0)
      · rw [iter_stop (by rw [hstep, decide_eq_true hbad, cond_true])]
        rw [getI_bad hi (by rw [hd]; exact getU_bad hbad) (by omega)]; rfl
      · have hx : bitOr .u64 (z : Int) (IntKind.u64.wrap ((IntKind.u64.wrap (bitAnd .u8 ((b[k]).toNat : Int) 127)) * 2 ^ (min (((7 * k : Nat) : Int)).toNat IntKind.u64.bits))) = ((z + (b[k].toNat % 128) * 2 ^ (7 * k) : Nat) : Int) := by
          have hdl := dig_lt (c := b[k].toNat) h9 hz (fun h => by omega)
          rw [bitAnd_low hc, wrap_u64 (x := ((b[k].toNat % 128 : Nat) : Int)) (by omega) (by omega), shl7 h9 (by omega), bitOr_shift hz hdl]
        have hdl := dig_lt (c := b[k].toNat) h9 hz (fun h => by omega)
        by_cases h128 : b[k].toNat < 128
        · rw [iter_stop (by rw [hstep, decide_eq_false hbad, cond_false, decide_eq_true h128, cond_true])]
          simp only [bindJ_go]
          rw [hx, gcont_ok hdl, getI_good hi (by rw [hd]; exact getU_last hbad h128), Nat.mod_eq_of_lt h128]; rfl
        · rw [iter_go (by rw [hstep, decide_eq_false hbad, cond_false, decide_eq_false h128, cond_false]), hx]
          have h9' : k ≠ 9 := fun h => hbad (.inl ⟨h, by omega⟩)
          refine get_loop b hb n (k + 1) _ (by omega) (by omega) (by omega) (dig_lt2 hz) ?_
          rw [← hi, hd, finU_step hbad h128]
    · have hs : wire_GetInt_L1 b ((z : Int), (k : Int)) = some (.stop (.go ((z : Int), 0))) := by
        unfold wire_GetInt_L1
        simp only [show decide ((k : Int) < (b.length : Int)) = false by simp; omega, cond_false]
      rw [iter_stop hs]
      have : b.drop k = [] := List.drop_eq_nil_of_le (by omega)
      rw [getI_bad hi (by rw [this]; rfl) (by omega)]; rfl
theorem get_int {n : Nat} {b : List UInt8} (hb : b.length < 1073741824) (hn : b.length < n) : wire_GetInt n b = some (triI (getI b)) := by
  have := get_loop b hb n 0 0 (by omega) (by omega) (by omega) (by simp) (by simpa using finU_start b)
  exact this
theorem get_len {n : Nat} {b : List UInt8} (hb : b.length < 1073741824) (hn : b.length < n) : wire_length n b 1 = some (((lenD b 1).1 : Int), ((lenD b 1).2.1 : Int), ((lenD b 1).2.2 : Int)) := by
  unfold wire_length
  rw [get_int hb hn]
  simp only [obind, Option.bind_some, triI]
  have ha := getI_any b
  unfold lenD
  by_cases h0 : (getI b).2.2 = 0
  · simp only [h0, ne_eq, Int.natCast_zero, not_true_eq_false, decide_false, cond_false, if_false]
    by_cases h1 : (getI b).1 < 0
    · simp [h1]
    · simp only [h1, decide_false, cond_false, if_false]
      rw [need_pos (by omega), w64 (x := (b.length : Int) - ((getI b).2.1 : Int)) (by omega) (by omega), Int.tdiv_one, w64 (by omega) (by omega), Nat.div_one]
      by_cases h2 : b.length - (getI b).2.1 < (getI b).1.toNat
      · rw [if_pos h2, show decide ((b.length : Int) - ((getI b).2.1 : Int) < (getI b).1) = true by simp; omega]; rfl
      · rw [if_neg h2, show decide ((b.length : Int) - ((getI b).2.1 : Int) < (getI b).1) = false by simp; omega]
        simp; omega
  · simp [h0]
theorem get_bytes {n : Nat} {b : List UInt8} (hb : b.length < 1073741824) (hn : b.length < n) : wire_GetBytes n b = some ((getS b).1, ((getS b).2.1 : Int), ((getS b).2.2 : Int)) := by
  unfold wire_GetBytes
  rw [get_len hb hn]
  simp only [obind, Option.bind_some]
  have ha := lenD_any (b := b) (least := 1) (by omega)
  unfold getS
  by_cases h0 : (lenD b 1).2.2 = 0
  · simp only [h0, ne_eq, Int.natCast_zero, not_true_eq_false, decide_false, cond_false, if_false]
    rw [w64 (by omega) (by omega), need_pos (by omega)]
    rw [show (((lenD b 1).2.1 : Int) + ((lenD b 1).1 : Int)).toNat = (lenD b 1).2.1 + (lenD b 1).1 by omega, Int.toNat_natCast, List.drop_take]
    simp
  · simp [h0]
end Go.Proofs.Ytgjdaamkfpbgpaa
namespace Go.Proofs.Ytgjdaamkfpbgpaa
open Go.Abs
set_option linter.unusedVariables false
set_option linter.unusedSimpArgs false

theorem get_list {α : Type} {one : List UInt8 → α × Nat × Nat} {b : List UInt8} {N : Nat} {step : Int × List α × Int → Option (Lp (Int × List α × Int) (Lp (Int × List α) (List α × Int × Int)))}
    (hstep : ∀ (A i : Nat) (out : List α), i < N → A ≤ b.length → out.length ≤ N → step ((A : Int), out, (i : Int)) = if (one (b.drop A)).2.2 ≠ 0 then some (.stop (.stop ([], 0, ((one (b.drop A)).2.2 : Int)))) else some (.go (((A + (one (b.drop A)).2.1 : Nat) : Int), out ++ [(one (b.drop A)).1], ((i + 1 : Nat) : Int))))
    (hend : ∀ (A : Nat) (out : List α), step ((A : Int), out, (N : Int)) = some (.stop (.go ((A : Int), out)))) (hle : ∀ b', (one b').2.1 ≤ b'.length) :
    ∀ (j n i A : Nat) (out : List α), i + j = N → A ≤ b.length → out.length = i → j < n →
      iter step n ((A : Int), out, (i : Int)) = some (if (getN one j (b.drop A)).2.2 ≠ 0 then .stop ([], 0, ((getN one j (b.drop A)).2.2 : Int)) else .go (((A + (getN one j (b.drop A)).2.1 : Nat) : Int), out ++ (getN one j (b.drop A)).1))
  | j, 0, i, A, out, _, _, _, h => by omega
  | 0, n + 1, i, A, out, hi, hA, ho, h => by
    obtain rfl : i = N := by omega
    rw [iter_stop (hend A out)]
    simp [getN]
  | j + 1, n + 1, i, A, out, hi, hA, ho, h => by
    have hs := hstep A i out (by omega) hA (by omega)
    by_cases he : (one (b.drop A)).2.2 = 0
    · rw [if_neg (by simpa using he)] at hs
      have hu := hle (b.drop A)
      rw [List.length_drop] at hu
      rw [iter_go hs, get_list hstep hend hle j n (i + 1) (A + (one (b.drop A)).2.1) _ (by omega) (Nat.le_trans (Nat.add_le_add_left hu A) (by omega)) (by simp [ho]) (by omega)]
      simp only [getN, he, ne_eq, not_true_eq_false, if_false]
      rw [List.drop_drop]
      generalize getN one j (b.drop (A + (one (b.drop A)).2.1)) = y
      by_cases h2 : y.2.2 = 0
      · simp [h2, Int.add_assoc]
      · simp [h2]
    · rw [if_pos he] at hs
      rw [iter_stop hs]
      simp [getN, he]
theorem get_ints {n : Nat} {b : List UInt8} (hb : b.length < 1073741824) (hn : b.length < n) : wire_GetInts n b = some ((getL getI 1 b).1, ((getL getI 1 b).2.1 : Int), ((getL getI 1 b).2.2 : Int)) := by
  unfold wire_GetInts wire_get_int_46
  rw [get_len hb hn]
  simp only [obind, Option.bind_some]
  have ha := lenD_any (b := b) (least := 1) (by omega)
  unfold getL
  by_cases h0 : (lenD b 1).2.2 = 0
  · simp only [h0, ne_eq, Int.natCast_zero, not_true_eq_false, decide_false, cond_false, if_false]
    have h := get_list (one := getI) (b := b) (N := (lenD b 1).1) (step := wire_get_int_46_L1 n b (((lenD b 1).1 : Int), ((lenD b 1).2.1 : Int), 0)) (fun A i out hi hA ho => by
        unfold wire_get_int_46_L1
        simp only [show decide ((i : Int) < ((lenD b 1).1 : Int)) = true by simp; omega, cond_true, Int.toNat_natCast]
        rw [need_pos (by omega), get_int (by simp; omega) (by simp; omega)]
        simp only [obind, Option.bind_some, triI]
        have hu := (getI_any (b.drop A)).1
        rw [List.length_drop] at hu
        rw [need_pos (by simp; omega), w_suc (N := b.length) (by omega) (by omega), w64 (by omega) (by omega)]
        by_cases he : (getI (b.drop A)).2.2 = 0
        · simp [he]
        · simp [he]) (fun A out => by unfold wire_get_int_46_L1; simp) (fun b' => (getI_any b').1) (lenD b 1).1 n 0 (lenD b 1).2.1 [] (by omega) (by omega) rfl (by omega)
    have h' : iter (wire_get_int_46_L1 n b (((lenD b 1).1 : Int), ((lenD b 1).2.1 : Int), 0)) n (((lenD b 1).2.1 : Int), [], 0) = _ := h
    rw [h']
    by_cases h2 : (getN getI (lenD b 1).1 (b.drop (lenD b 1).2.1)).2.2 = 0
    · simp [h2]
    · simp [h2]
  · simp [h0]
theorem get_strings {n : Nat} {b : List UInt8} (hb : b.length < 1073741824) (hn : b.length < n) : wire_GetStrings n b = some ((getL getS 1 b).1, ((getL getS 1 b).2.1 : Int), ((getL getS 1 b).2.2 : Int)) := by
  unfold wire_GetStrings wire_get_string_44
  rw [get_len hb hn]
  simp only [obind, Option.bind_some]
  have ha := lenD_any (b := b) (least := 1) (by omega)
  unfold getL
  by_cases h0 : (lenD b 1).2.2 = 0
  · simp only [h0, ne_eq, Int.natCast_zero, not_true_eq_false, decide_false, cond_false, if_false]
    have h := get_list (one := getS) (b := b) (N := (lenD b 1).1) (step := wire_get_string_44_L1 n b (((lenD b 1).1 : Int), ((lenD b 1).2.1 : Int), 0)) (fun A i out hi hA ho => by
        unfold wire_get_string_44_L1
        simp only [show decide ((i : Int) < ((lenD b 1).1 : Int)) = true by simp; omega, cond_true, Int.toNat_natCast]
        rw [need_pos (by omega), get_bytes (by simp; omega) (by simp; omega)]
        simp only [obind, Option.bind_some]
        have hu := (getS_any (b.drop A)).1
        rw [List.length_drop] at hu
        rw [need_pos (by simp; omega), w_suc (N := b.length) (by omega) (by omega), w64 (by omega) (by omega)]
        by_cases he : (getS (b.drop A)).2.2 = 0
        · simp [he]
        · simp [he]) (fun A out => by unfold wire_get_string_44_L1; simp) (fun b' => (getS_any b').1) (lenD b 1).1 n 0 (lenD b 1).2.1 [] (by omega) (by omega) rfl (by omega)
    have h' : iter (wire_get_string_44_L1 n b (((lenD b 1).1 : Int), ((lenD b 1).2.1 : Int), 0)) n (((lenD b 1).2.1 : Int), [], 0) = _ := h
    rw [h']
    by_cases h2 : (getN getS (lenD b 1).1 (b.drop (lenD b 1).2.1)).2.2 = 0
    · simp [h2]
    · simp [h2]
  · simp [h0]
end Go.Proofs.Ytgjdaamkfpbgpaa
namespace Go.Proofs.Ytgjdaamkfpbgpaa
open Go.Abs
set_option linter.unusedVariables false
set_option linter.unusedSimpArgs false

theorem grow_ok {k : Nat} (h : k < 1073741824) : slices_Grow_byte_byte_48 (k : Int) = some [] := by
  unfold slices_Grow_byte_byte_48
  simp only [show decide ((k : Int) < 0) = false by simp, cond_false, Int.sub_zero]
  rw [w64 (by omega) (by omega)]
  by_cases h0 : 0 < k
  · simp only [show decide ((0 : Int) < (k : Int)) = true by simp; omega, cond_true]
    rw [need_pos (by omega), need_pos (by simp)]
    simp
  · simp only [show decide ((0 : Int) < (k : Int)) = false by simp; omega, cond_false, bindJ_go]
theorem concat_ok {n : Nat} {l : List (List UInt8)} (hn : l.length < n) (hl : l.length < 1073741824) (hs : (l.map List.length).sum < 1073741824) : slices_Concat_byte_byte_26 n l = some (l.flatMap id) := by
  unfold slices_Concat_byte_byte_26
  have h1 := iter_list (l := l) (step := slices_Concat_byte_byte_26_L1 l) (fun i => ((((l.take i).map List.length).sum : Nat), (i : Int))) (.go (((l.map List.length).sum : Nat) : Int)) (fun i hi => by
    unfold slices_Concat_byte_byte_26_L1
    have := sum_le hi
    simp only [show decide ((i : Int) < (l.length : Int)) = true by simp; omega, cond_true]
    rw [idx_get' hi, w64 (by omega) (by omega), show decide (((((l.take i).map List.length).sum : Nat) : Int) + (l[i].length : Int) < 0) = false by simp; omega]
    simp only [cond_false]
    rw [w_suc (N := l.length) (by omega) (by omega), sum_take hi]
    simp) (by unfold slices_Concat_byte_byte_26_L1; simp) n 0 (by omega) (by omega)
  have h1' : iter (slices_Concat_byte_byte_26_L1 l) n (0, 0) = some (.go (((l.map List.length).sum : Nat) : Int)) := h1
  rw [h1']
  simp only [bindJ_go, grow_ok hs, obind, Option.bind_some]
  have hfl : ∀ i, ((l.take i).flatMap id).length = ((l.take i).map List.length).sum := fun i => by simp [List.length_flatMap]
  have h2 := iter_list (l := l) (step := slices_Concat_byte_byte_26_L2 l) (fun i => ((l.take i).flatMap id, (i : Int))) (.go (l.flatMap id)) (fun i hi => by
    unfold slices_Concat_byte_byte_26_L2
    have := sum_le hi
    simp only [show decide ((i : Int) < (l.length : Int)) = true by simp; omega, cond_true]
    rw [idx_get' hi, need_pos (by rw [hfl]; omega), w_suc (N := l.length) (by omega) (by omega), flat_takeW id hi]
    rfl) (by unfold slices_Concat_byte_byte_26_L2; simp) n 0 (by omega) (by omega)
  have h2' : iter (slices_Concat_byte_byte_26_L2 l) n ([], 0) = some (.go (l.flatMap id)) := h2
  rw [h2']; rfl
def textsOf (m : S_api_Module) : List (List UInt8) := m.Name :: m.Code.map (·.S)
def numsOf (m : S_api_Module) : List Int := m.Code.flatMap fun x => [x.Op, x.A]
def encM (m : S_api_Module) : List UInt8 := encL encS (textsOf m) ++ encL encI m.Effects ++ encL encI (numsOf m)
theorem nums_len (l : List S_api_Instr) : (l.flatMap fun x => [x.Op, x.A]).length = 2 * l.length := by
  induction l with
  | nil => rfl
  | cons x r ih => simp [List.flatMap_cons, ih]; omega
theorem texts_take {l : List S_api_Instr} {i : Nat} (h : i < l.length) (a : List UInt8) : a :: (l.take (i + 1)).map (·.S) = (a :: (l.take i).map (·.S)) ++ [l[i].S] := by rw [List.take_succ_eq_append_getElem h, List.map_append]; rfl
theorem nums_take {l : List S_api_Instr} {i : Nat} (h : i < l.length) : (l.take (i + 1)).flatMap (fun x => [x.Op, x.A]) = (l.take i).flatMap (fun x => [x.Op, x.A]) ++ [l[i].Op, l[i].A] := by rw [List.take_succ_eq_append_getElem h, List.flatMap_append]; rfl
theorem encode_ok {n : Nat} {m : S_api_Module} (hn : 2 * m.Code.length + 10 < n) (hne : m.Effects.length < n) (hl : m.Code.length < 1000000) (hle : m.Effects.length < 1000000) (hT : ∀ v ∈ textsOf m, v.length < 1073741824)
    (hE : ∀ v ∈ m.Effects, -9223372036854775808 ≤ v ∧ v ≤ 9223372036854775807) (hN : ∀ v ∈ numsOf m, -9223372036854775808 ≤ v ∧ v ≤ 9223372036854775807)
    (h1 : ((textsOf m).flatMap encS).length < 200000000) (h2 : (m.Effects.flatMap encI).length < 200000000) (h3 : ((numsOf m).flatMap encI).length < 200000000) : compile_Encode n m = some (encM m) := by
  have hq := iter_list (l := m.Code) (step := compile_Encode_L1 m) (fun i => (m.Name :: (m.Code.take i).map (·.S), (m.Code.take i).flatMap (fun x => [x.Op, x.A]), (i : Int))) (.go (textsOf m, numsOf m)) (fun i hi => by
    unfold compile_Encode_L1
    simp only [show decide ((i : Int) < (m.Code.length : Int)) = true by simp; omega, cond_true]
    rw [idx_get' hi, need_pos (by simp; omega), need_pos (by rw [nums_len]; simp; omega), w_suc (N := m.Code.length) (by omega) (by omega), texts_take hi, nums_take hi]) (by unfold compile_Encode_L1; simp [textsOf, numsOf]) n 0 (by omega) (by omega)
  have hq' : iter (compile_Encode_L1 m) n ([m.Name], [], 0) = some (.go (textsOf m, numsOf m)) := hq
  have e1 : (textsOf m).length = m.Code.length + 1 := by simp [textsOf]
  have e2 : (numsOf m).length = 2 * m.Code.length := nums_len _
  have a1 := (encI_len (n := ((textsOf m).length : Int)) (by omega) (by omega)).2
  have a2 := (encI_len (n := (m.Effects.length : Int)) (by omega) (by omega)).2
  have a3 := (encI_len (n := ((numsOf m).length : Int)) (by omega) (by omega)).2
  unfold compile_Encode
  rw [hq']
  simp only [bindJ_go, obind]
  rw [strings_enc (by omega) (by omega) hT (by omega) (by omega)]
  simp only [Option.bind_some]
  rw [ints_enc (by omega) hne hE (by omega) (by omega)]
  simp only [Option.bind_some]
  rw [ints_enc (by omega) (by omega) hN (by omega) (by omega)]
  simp only [Option.bind_some]
  rw [concat_ok (by simp; omega) (by simp) (by simp only [encL, List.map_cons, List.map_nil, List.sum_cons, List.sum_nil, List.length_append]; omega)]
  simp [encM]
end Go.Proofs.Ytgjdaamkfpbgpaa
namespace Go.Proofs.Ytgjdaamkfpbgpaa
open Go.Abs
set_option linter.unusedVariables false
set_option linter.unusedSimpArgs false

def mkI : List (List UInt8) → List Int → List S_api_Instr
  | t :: ts, a :: b :: ns => ⟨a, b, t⟩ :: mkI ts ns
  | _, _ => []
theorem mkI_get : ∀ (ts : List (List UInt8)) (ns : List Int) (h : ns.length = 2 * ts.length) (i : Nat) (hi : i < ts.length), (mkI ts ns)[i]? = some ⟨ns[2 * i], ns[2 * i + 1], ts[i]⟩
  | t :: ts, a :: b :: ns, h, 0, hi => rfl
  | t :: ts, a :: b :: ns, h, i + 1, hi => by
    have := mkI_get ts ns (by simp at h; omega) i (by simpa using hi)
    simp only [mkI, List.getElem?_cons_succ, this]
    simp [Nat.mul_add]
  | t :: ts, [a], h, i, hi => by simp at h; omega
  | t :: ts, [], h, i, hi => by simp at h
theorem mkI_len : ∀ (ts : List (List UInt8)) (ns : List Int), ns.length = 2 * ts.length → (mkI ts ns).length = ts.length
  | [], ns, h => by cases ns <;> simp [mkI]
  | t :: ts, a :: b :: ns, h => by simp [mkI, mkI_len ts ns (by simp at h; omega)]
  | t :: ts, [a], h => by simp at h; omega
  | t :: ts, [], h => by simp at h
theorem mkI_of (l : List S_api_Instr) : mkI (l.map (·.S)) (l.flatMap fun x => [x.Op, x.A]) = l := by
  induction l with
  | nil => rfl
  | cons x r ih => simp only [List.map_cons, List.flatMap_cons, List.cons_append, List.nil_append, mkI, ih]
/-- the module that bytes are the code of, if any -/
def parts (b : List UInt8) : Option S_api_Module :=
  let t := getL getS 1 b
  if t.2.2 ≠ 0 then none else
  match t.1 with
  | [] => none
  | a :: ts =>
    let e := getL getI 1 (b.drop t.2.1)
    if e.2.2 ≠ 0 then none else
    let u := getL getI 1 (b.drop (t.2.1 + e.2.1))
    if u.2.2 ≠ 0 ∨ t.2.1 + e.2.1 + u.2.1 ≠ b.length ∨ u.1.length ≠ 2 * ts.length then none else some ⟨a, e.1, mkI ts u.1⟩
theorem parts_enc (m : S_api_Module) (hl : m.Code.length < 1000000) (hle : m.Effects.length < 1000000) (hT : ∀ v ∈ textsOf m, v.length < 1073741824)
    (hE : ∀ v ∈ m.Effects, -9223372036854775808 ≤ v ∧ v ≤ 9223372036854775807) (hN : ∀ v ∈ numsOf m, -9223372036854775808 ≤ v ∧ v ≤ 9223372036854775807) : parts (encM m) = some m := by
  have e1 : (textsOf m).length = m.Code.length + 1 := by simp [textsOf]
  have e2 : (numsOf m).length = 2 * m.Code.length := nums_len _
  have h1 := getLS_enc (textsOf m) (encL encI m.Effects ++ encL encI (numsOf m)) (by omega) (fun s hs => by have := hT s hs; omega)
  have h2 := getLI_enc m.Effects (encL encI (numsOf m)) (by omega) hE
  have h3 := getLI_enc (numsOf m) [] (by omega) hN
  rw [List.append_nil] at h3
  unfold parts
  have hm : encM m = encL encS (textsOf m) ++ (encL encI m.Effects ++ encL encI (numsOf m)) := by unfold encM; rw [List.append_assoc]
  have d1 : (encM m).drop (encL encS (textsOf m)).length = encL encI m.Effects ++ encL encI (numsOf m) := by rw [hm]; simp
  have d2 : (encM m).drop ((encL encS (textsOf m)).length + (encL encI m.Effects).length) = encL encI (numsOf m) := by rw [← List.drop_drop, d1]; simp
  rw [hm] at d1 d2 ⊢
  simp only [h1, d1, d2, h2, h3, ne_eq, not_true_eq_false, if_false]
  simp only [textsOf, List.length_map, false_or]
  rw [if_neg (by rw [e2]; simp [textsOf]; omega)]
  have := mkI_of m.Code
  unfold numsOf
  rw [this]
end Go.Proofs.Ytgjdaamkfpbgpaa
namespace Go.Proofs.Ytgjdaamkfpbgpaa
open Go.Abs
set_option linter.unusedVariables false
set_option linter.unusedSimpArgs false

theorem decode_loop {n : Nat} {a : List UInt8} {ts : List (List UInt8)} {ns : List Int} {x y x' y' : Int} (h : ns.length = 2 * ts.length) (hn : ts.length < n) (hl : ts.length < 1000000) :
    iter (compile_Decode_L1 (a :: ts, x, y) (ns, x', y')) n (0, []) = some (.go (mkI ts ns)) := by
  have hk := mkI_len ts ns h
  have hq := iter_list (l := ts) (step := compile_Decode_L1 (a :: ts, x, y) (ns, x', y')) (fun i => ((i : Int), (mkI ts ns).take i)) (.go (mkI ts ns)) (fun i hi => by
    unfold compile_Decode_L1
    simp only [show (1 : Int).toNat = 1 from rfl, List.drop_succ_cons, List.drop_zero]
    simp only [show decide ((i : Int) < (ts.length : Int)) = true by simp; omega, cond_true]
    rw [idx_get' hi, w64 (x := 2 * (i : Int)) (by omega) (by omega), w64 (x := 2 * (i : Int) + 1) (by omega) (by omega)]
    rw [show (2 * (i : Int) + 1) = ((2 * i + 1 : Nat) : Int) by omega, show (2 * (i : Int)) = ((2 * i : Nat) : Int) by omega, idx_get' (by omega), idx_get' (by omega), need_pos (by simp; omega), w_suc (N := ts.length) (by omega) (by omega)]
    have hg := mkI_get ts ns h i hi
    have hlt : i < (mkI ts ns).length := by omega
    rw [List.getElem?_eq_getElem hlt] at hg
    rw [List.take_succ_eq_append_getElem hlt, Option.some.inj hg]) (by
    unfold compile_Decode_L1
    simp [← hk]) n 0 (by omega) (by omega)
  exact hq
theorem decode_ok {n : Nat} {b : List UInt8} (hb : b.length < 1000000) (hn : b.length < n) :
    compile_Decode n b = match parts b with | none => some (⟨[], [], []⟩, 11) | some m => obind (compile_Check n m) fun r => cond (decide (r ≠ 0)) (some (⟨[], [], []⟩, 11)) (some (m, 0)) := by
  unfold compile_Decode parts
  rw [get_strings (by omega) hn]
  simp only [obind, Option.bind_some]
  have a1 := getLS_any b
  generalize getL getS 1 b = t at *
  obtain ⟨tl, tu, te⟩ := t
  simp only at a1 ⊢
  by_cases h1 : te = 0
  · subst h1
    cases tl with
    | nil => simp
    | cons a ts =>
      simp only [List.length_cons] at a1
      simp only [Int.natCast_zero, ne_eq, not_true_eq_false, decide_false, Bool.false_or, List.length_cons, if_false]
      rw [show decide (((ts.length + 1 : Nat) : Int) = 0) = false by simp; omega]
      simp only [cond_false, Int.toNat_natCast]
      rw [need_pos (by omega), get_ints (by simp; omega) (by simp; omega)]
      simp only [Option.bind_some]
      have a2 := getLI_any (b.drop tu)
      rw [List.length_drop] at a2
      generalize getL getI 1 (b.drop tu) = e at *
      obtain ⟨el, eu, ee⟩ := e
      simp only at a2 ⊢
      by_cases h2 : ee = 0
      · subst h2
        simp only [Int.natCast_zero, not_true_eq_false, decide_false, cond_false, if_false]
        rw [w64 (x := (tu : Int) + (eu : Int)) (by omega) (by omega), need_pos (by omega), show ((tu : Int) + (eu : Int)).toNat = tu + eu by omega, get_ints (by simp; omega) (by simp; omega)]
        simp only [Option.bind_some]
        have a3 := getLI_any (b.drop (tu + eu))
        rw [List.length_drop] at a3
        generalize getL getI 1 (b.drop (tu + eu)) = u at *
        obtain ⟨ul, uu, ue⟩ := u
        simp only at a3 ⊢
        have w1 : IntKind.i64.wrap ((tu : Int) + (eu : Int) + (uu : Int)) = (tu : Int) + (eu : Int) + (uu : Int) := w64 (by omega) (by omega)
        have w2 : IntKind.i64.wrap (2 * ((ts.length + 1 : Nat) : Int)) = 2 * ((ts.length + 1 : Nat) : Int) := w64 (by omega) (by omega)
        have w3 : IntKind.i64.wrap (2 * ((ts.length + 1 : Nat) : Int) - 2) = 2 * ((ts.length + 1 : Nat) : Int) - 2 := w64 (by omega) (by omega)
        simp only [w1, w2, w3]
        by_cases h3 : ue = 0 ∧ tu + eu + uu = b.length ∧ ul.length = 2 * ts.length
        · obtain ⟨rfl, h4, h5⟩ := h3
          have c1 : (tu : Int) + (eu : Int) + (uu : Int) = (b.length : Int) := by omega
          have c2 : (ul.length : Int) = 2 * ((ts.length + 1 : Nat) : Int) - 2 := by omega
          rw [if_neg (by simp; exact ⟨h4, h5⟩)]
          simp only [c1, c2, Int.natCast_zero, not_true_eq_false, decide_false, Bool.or_self, cond_false]
          rw [idx_int (w := 0) (by omega) (by simp), need_pos (by omega), decode_loop h5 (by omega) (by omega)]
          rfl
        · rw [if_pos (by by_cases c1 : ue = 0 <;> by_cases c2 : tu + eu + uu = b.length <;> simp_all)]
          by_cases c1 : ue = 0
          · by_cases c2 : tu + eu + uu = b.length
            · have c3 : ¬ (ul.length : Int) = 2 * ((ts.length + 1 : Nat) : Int) - 2 := by omega
              simp only [c3, not_false_eq_true, decide_true, Bool.or_true, cond_true]
            · have c3 : ¬ ((tu : Int) + (eu : Int) + (uu : Int) = (b.length : Int)) := by omega
              simp only [c3, not_false_eq_true, decide_true, Bool.or_true, Bool.true_or, cond_true]
          · have c3 : ¬ ((ue : Int) = 0) := by omega
            simp only [c3, not_false_eq_true, decide_true, Bool.true_or, cond_true]
      · have c3 : ¬ ((ee : Int) = 0) := by omega
        rw [if_pos h2]
        simp only [c3, not_false_eq_true, decide_true, cond_true]
  · have c3 : ¬ ((te : Int) = 0) := by omega
    rw [if_pos h1]
    simp only [c3, ne_eq, not_false_eq_true, decide_true, Bool.true_or, cond_true]
end Go.Proofs.Ytgjdaamkfpbgpaa
namespace Go.Proofs.Ytgjdaamkfpbgpaa
open Go.Abs
set_option linter.unusedVariables false
set_option linter.unusedSimpArgs false

def Sm (k : Nat) (t : S_compile_types) : Prop := t.stack_.length ≤ k ∧ t.slots_.length ≤ k ∧ t.loops_.length ≤ k
theorem mget_put {V : Type} (l : List (Int × V)) (k : Int) (v : V) (k' : Int) : mget (mput l k v) k' = if k' = k then some v else mget l k' := by
  induction l with
  | nil => simp only [mput, mget]; by_cases h : k = k' <;> simp [h, eq_comm]
  | cons p r ih =>
    simp only [mput]
    by_cases h : p.1 = k
    · simp only [h, if_true, mget]
      by_cases e : k = k'
      · simp [e]
      · rw [if_neg e, if_neg e, if_neg (fun q => e q.symm)]
    · simp only [h, if_false, mget, ih]
      by_cases e : p.1 = k'
      · simp only [e, if_true]; rw [if_neg (fun q => h (e.trans q))]
      · simp only [e, if_false]
def AllSm (k : Nat) (l : List (Int × S_compile_types)) : Prop := ∀ (i : Int) (t : S_compile_types), mget l i = some t → Sm k t
theorem AllSm.put {k : Nat} {l : List (Int × S_compile_types)} (h : AllSm k l) (i : Int) {t : S_compile_types} (ht : Sm k t) : AllSm k (mput l i t) := by
  intro j u hu
  rw [mget_put] at hu
  split at hu
  · cases hu; exact ht
  · exact h j u hu
theorem Sm.mono {j k : Nat} {t : S_compile_types} (h : Sm j t) (hk : j ≤ k) : Sm k t := ⟨by have := h.1; omega, by have := h.2.1; omega, by have := h.2.2; omega⟩
theorem AllSm.mono {j k : Nat} {l : List (Int × S_compile_types)} (h : AllSm j l) (hk : j ≤ k) : AllSm k l := fun i t ht => (h i t ht).mono hk
end Go.Proofs.Ytgjdaamkfpbgpaa
namespace Go.Proofs.Ytgjdaamkfpbgpaa
open Go.Abs
set_option linter.unusedVariables false
set_option linter.unusedSimpArgs false

def R64 (x : Int) : Prop := -9223372036854775808 ≤ x ∧ x ≤ 9223372036854775807
theorem flat_max {α : Type} {one : α → List UInt8} {k : Nat} : ∀ l : List α, (∀ x ∈ l, (one x).length ≤ k) → (l.flatMap one).length ≤ k * l.length
  | [], _ => by simp
  | x :: l, h => by
    have := flat_max l (fun y hy => h y (.tail _ hy)); have := h x (.head _)
    simp only [List.flatMap_cons, List.length_append, List.length_cons, Nat.mul_succ]; omega
theorem encS_le {s : List UInt8} (h : s.length ≤ 1073741824) : (encS s).length ≤ s.length + 10 := by
  unfold encS; have := (encI_len (n := (s.length : Int)) (by omega) (by omega)).2; simp only [List.length_append]; omega
end Go.Proofs.Ytgjdaamkfpbgpaa
namespace Go.Proofs.Ytgjdaamkfpbgpaa
open Go.Abs
set_option linter.unusedVariables false
set_option linter.unusedSimpArgs false

theorem clone_ok {l : List Int} (h : l.length < 1000000) : slices_Clone_int_int_57 l = some l := by
  unfold slices_Clone_int_int_57
  rw [need_pos (by simp; omega)]; rfl
theorem push_ok {st vs L : List Int} {k : Int} (h : st.length < 100000) : weirgate_compile_types_push_65 ⟨st, vs, L⟩ k = some (⟨st ++ [k], vs, L⟩, decide (k ≠ 0)) := by
  unfold weirgate_compile_types_push_65
  simp only [clone_ok (show st.length < 1000000 by omega), obind, Option.bind_some]
  rw [need_pos (by simp; omega)]
theorem pop_ok {st vs L : List Int} {k : Int} (h : st.length < 100000) : weirgate_compile_types_pop_56 ⟨st ++ [k], vs, L⟩ k = some (⟨st, vs, L⟩, true) := by
  unfold weirgate_compile_types_pop_56
  simp only [List.length_append, List.length_cons, List.length_nil]
  rw [w64 (by omega) (by omega), show (((st.length + (0 + 1) : Nat) : Int) - 1) = (st.length : Int) by omega]
  rw [show decide ((st.length : Int) < 0) = false by simp]
  simp only [cond_false]
  rw [idx_get' (by simp)]
  simp only [List.getElem_append_right (Nat.le_refl _), Nat.sub_self, List.getElem_cons_zero, bindJ_go, ne_eq, not_true_eq_false, decide_false, cond_false]
  rw [need_pos (by omega)]
  simp
theorem contains_no (n : Nat) (l : List Int) (v : Int) (hn : l.length < n) (hl : l.length < 1000000) (h : ∀ x ∈ l, x = v) : slices_ContainsFunc_int_int_67 n l v = some false := by
  unfold slices_ContainsFunc_int_int_67 slices_IndexFunc_int_int_73
  have h1 := iter_allgo (step := slices_IndexFunc_int_int_73_L1 l v) l.length (.go ()) (fun i hi => by
    unfold slices_IndexFunc_int_int_73_L1
    simp only [show decide ((i : Int) < (l.length : Int)) = true by simp; omega, cond_true, weirgate_compile_types_operator_1_68, obind, Option.bind_some]
    rw [idx_get' hi, w64 (by omega) (by omega), h _ (List.getElem_mem _)]
    simp) (by unfold slices_IndexFunc_int_int_73_L1; simp) n hn
  rw [h1]; rfl
theorem leaf_ok {op n slot : Int} {s : List UInt8} {st vs L : List Int} {ty : Int} {k : Int} (h : lfE op n slot s vs ty) : weirgate_compile_types_leaf_66 ⟨st, vs, L⟩ ⟨op, if op = 23 then k else if op = 3 then slot else if op = 1 then n else 0, if op = 2 ∨ op = 6 then s else []⟩ = some ty := by
  unfold weirgate_compile_types_leaf_66
  rcases h with ⟨rfl, h0, h1, rfl⟩ | ⟨rfl | rfl, h1, rfl⟩ | ⟨rfl | rfl, rfl⟩ | ⟨rfl, rfl⟩ | ⟨rfl, h0, h1⟩
  · simp [h0, h1]
  · simp [show decide ((s.length : Int) ≤ 200) = true by simp; omega]
  · simp [show decide ((s.length : Int) ≤ 200) = true by simp; omega]
  · simp
  · simp
  · simp
  · obtain ⟨h2, h3⟩ := List.getElem?_eq_some_iff.1 h1
    simp [h0]
    rw [show decide (slot < (vs.length : Int)) = true by simp; omega]
    simp only [cond_true]
    rw [idx_int h0 (by omega), h3]
theorem lf_le {op n slot : Int} {s : List UInt8} {vs : List Int} {ty : Int} (h : lfE op n slot s vs ty) : 1 ≤ op ∧ op ≤ 7 := by
  rcases h with ⟨rfl, h0, h1, rfl⟩ | ⟨rfl | rfl, h1, rfl⟩ | ⟨rfl | rfl, rfl⟩ | ⟨rfl, rfl⟩ | ⟨rfl, h0, h1⟩ <;> omega
theorem af_leaf {N : Nat} {op n slot : Int} {s : List UInt8} {st vs L : List Int} {ty k a : Int} (h : lfE op n slot s vs ty) (h0 : ty ≠ 0) (hs : st.length < 100000) :
    weirgate_compile_types_after_32 N ⟨st, vs, L⟩ ⟨op, if op = 23 then k else if op = 3 then slot else if op = 1 then n else 0, if op = 2 ∨ op = 6 then s else []⟩ a = some (⟨st ++ [ty], vs, L⟩, true) := by
  have hop := lf_le h
  unfold weirgate_compile_types_after_32 weirgate_compile_types_operator_55
  rw [leaf_ok h]
  simp only [show decide (1 ≤ op) = true by simp; omega, show decide (op ≤ 23) = true by simp; omega, show decide (op ≤ 7) = true by simp; omega, Bool.and_self, cond_true, obind, Option.bind_some, push_ok hs, bindJ_stop]
  simp [h0]
theorem af_op {N : Nat} {op : Int} {st vs L ts : List Int} {ty k a : Int} (h : ariB op ts.length) (ht : ∀ x ∈ ts, x = k) (hv : valT op k = ty) (h0 : ty ≠ 0) (hs : st.length + ts.length < 100000) (hN : ts.length < N) :
    weirgate_compile_types_after_32 N ⟨st ++ ts, vs, L⟩ ⟨op, if op = 23 then (ts.length : Int) else 0, []⟩ a = some (⟨st ++ [ty], vs, L⟩, true) := by
  obtain ⟨h8, h23, har⟩ := h
  unfold weirgate_compile_types_after_32 weirgate_compile_types_operator_55
  simp only [show decide (1 ≤ op) = true by simp; omega, show decide (op ≤ 23) = true by simp; omega, show decide (op ≤ 7) = false by simp; omega, Bool.and_self, cond_true, cond_false]
  have hj : (cond (decide (op = 8) || decide (op = 9)) (some (.go 1)) (cond (decide (op = 23)) (some (.go (if op = 23 then (ts.length : Int) else 0))) (some (.go 2))) : Option (Lp Int (S_compile_types × Bool))) = some (.go (ts.length : Int)) := by
    rcases har with ⟨h1, h2⟩ | ⟨h1, h2⟩ | ⟨h1, h2⟩
    · rw [show (decide (op = 8) || decide (op = 9)) = true by simpa using h1, h2]; rfl
    · subst h1; simp
    · rw [show (decide (op = 8) || decide (op = 9)) = false by simp; omega, show decide (op = 23) = false by simp; omega, h2]; rfl
  rw [hj]
  simp only [bindJ_go, List.length_append, decide_true, Bool.not_true, Bool.or_false]
  rw [w64 (by omega) (by omega), show (((st.length + ts.length : Nat) : Int) - (ts.length : Int)) = (st.length : Int) by omega]
  have hpos : 0 < ts.length := by omega
  have hb : (((decide ((ts.length : Int) < 1) || (decide (op = 23) && decide ((ts.length : Int) < 2))) || (decide (op ≠ 23) && decide ((if op = 23 then (ts.length : Int) else 0) ≠ 0))) || decide ((st.length : Int) < 0)) = false := by
    by_cases e : op = 23
    · simp [e]; omega
    · simp [e]; omega
  rw [hb]
  simp only [cond_false]
  have hk : (st ++ ts)[st.length]'(by simp; omega) = k := by
    rw [List.getElem_append_right (Nat.le_refl _)]; exact ht _ (List.getElem_mem _)
  rw [idx_get' (by simp; omega), hk, need_pos (by omega)]
  simp only [Int.toNat_natCast, List.drop_left, List.take_left, contains_no N ts k hN (by omega) ht, obind, Option.bind_some, cond_false, value_eq, hv, push_ok (show st.length < 100000 by omega)]
  rw [need_pos (by omega)]
  simp [h0]
variable {N : Nat} {st vs L : List Int} {a : Int}
theorem af_30 {t : S_compile_types} : weirgate_compile_types_after_32 N t ⟨30, 0, []⟩ a = some (t, true) := by
  unfold weirgate_compile_types_after_32; simp
theorem af_37 {t : S_compile_types} {A : Int} : weirgate_compile_types_after_32 N t ⟨37, A, []⟩ a = some (t, true) := by
  unfold weirgate_compile_types_after_32; simp
theorem af_38 {A : Int} : weirgate_compile_types_after_32 N ⟨[3], vs, L⟩ ⟨38, A, []⟩ a = some (⟨[], vs, L⟩, true) := by
  unfold weirgate_compile_types_after_32
  have := pop_ok (st := []) (vs := vs) (L := L) (k := 3) (by simp)
  simp only [List.nil_append] at this
  simp [this, obind]
theorem af_33 : weirgate_compile_types_after_32 N ⟨[1], vs, L⟩ ⟨33, 0, []⟩ a = some (⟨[], vs, L⟩, true) := by
  unfold weirgate_compile_types_after_32
  have := pop_ok (st := []) (vs := vs) (L := L) (k := 1) (by simp)
  simp only [List.nil_append] at this
  simp [this, obind]
theorem af_text {op : Int} {s : List UInt8} (h : op = 32 ∧ s.length ≤ 200 ∨ (op = 34 ∨ op = 35 ∨ op = 36) ∧ s = []) : weirgate_compile_types_after_32 N ⟨[2], vs, L⟩ ⟨op, 0, s⟩ a = some (⟨[], vs, L⟩, true) := by
  unfold weirgate_compile_types_after_32
  have := pop_ok (st := []) (vs := vs) (L := L) (k := 2) (by simp)
  simp only [List.nil_append] at this
  rcases h with ⟨rfl, h⟩ | ⟨rfl | rfl | rfl, rfl⟩
  · have e : decide (200 < (s.length : Int)) = false := by simp; omega
    simp [this, obind, e]
  · simp [this, obind]
  · simp [this, obind]
  · simp [this, obind]
theorem af_39 {A : Int} (h : 0 ≤ A ∧ A ≤ 1000) (hL : L.length < 100000) : weirgate_compile_types_after_32 N ⟨st, vs, L⟩ ⟨39, A, []⟩ a = some (⟨st, vs, L ++ [a]⟩, true) := by
  unfold weirgate_compile_types_after_32
  simp only [clone_ok (show L.length < 1000000 by omega), obind, Option.bind_some]
  simp [h]
  exact need_pos (by omega) _
theorem af_40 {A : Int} (hL : 0 < L.length) : weirgate_compile_types_after_32 N ⟨st, vs, L⟩ ⟨40, A, []⟩ a = some (⟨st, vs, L⟩, true) := by
  unfold weirgate_compile_types_after_32
  simp [hL]
theorem af_41 {A : Int} (h : 0 ≤ A ∧ A ≤ vs.length) : weirgate_compile_types_after_32 N ⟨st, vs, L⟩ ⟨41, A, []⟩ a = some (⟨st, vs.take A.toNat, L⟩, true) := by
  unfold weirgate_compile_types_after_32
  have e1 : decide (A < 0) = false := by simp; omega
  have e2 : decide ((vs.length : Int) < A) = false := by simp; omega
  simp [e1, e2]
  exact need_pos (by omega) _
theorem af_31n {ty : Int} (h : vs.length < 200) : weirgate_compile_types_after_32 N ⟨[ty], vs, L⟩ ⟨31, (vs.length : Int), []⟩ a = some (⟨[], vs ++ [ty], L⟩, true) := by
  unfold weirgate_compile_types_after_32
  have e1 : decide ((vs.length : Int) < 0) = false := by simp
  have e2 : decide ((200 : Int) ≤ (vs.length : Int)) = false := by simp; omega
  have e3 : IntKind.i64.wrap ((([ty] : List Int).length : Int) - 1) = 0 := by rw [w64 (by simp) (by simp)]; simp
  simp only [e3]
  simp [e2, idx, clone_ok (show vs.length < 1000000 by omega), obind, need]
  rw [e1, if_pos (by omega)]
  simp
theorem af_31s {ty A : Int} (h0 : 0 ≤ A) (h : vs[A.toNat]? = some ty) (hl : vs.length ≤ 200) : weirgate_compile_types_after_32 N ⟨[ty], vs, L⟩ ⟨31, A, []⟩ a = some (⟨[], vs, L⟩, true) := by
  obtain ⟨h2, h3⟩ := List.getElem?_eq_some_iff.1 h
  unfold weirgate_compile_types_after_32
  have e1 : decide (A < 0) = false := by simp; omega
  have e2 : decide ((200 : Int) ≤ A) = false := by simp; omega
  have e3 : IntKind.i64.wrap ((([ty] : List Int).length : Int) - 1) = 0 := by rw [w64 (by simp) (by simp)]; simp
  have e4 : decide ((vs.length : Int) < A) = false := by simp; omega
  have e5 : decide (A = (vs.length : Int)) = false := by simp; omega
  simp only [e3]
  simp [e1, e2, e4, e5, idx, h, h0, need]
end Go.Proofs.Ytgjdaamkfpbgpaa
namespace Go.Proofs.Ytgjdaamkfpbgpaa
open Go.Abs
set_option linter.unusedVariables false
set_option linter.unusedSimpArgs false

abbrev MT := List (Int × S_compile_types)
theorem mget_putM (l : MT) (k : Int) (v : S_compile_types) (k' : Int) : mget (mput l k v) k' = if k' = k then some v else mget l k' := by
  induction l with
  | nil => simp only [mput, mget]; by_cases h : k = k' <;> simp [h, eq_comm]
  | cons p r ih =>
    simp only [mput]
    by_cases h : p.1 = k
    · simp only [h, if_true, mget]
      by_cases e : k = k'
      · simp [e]
      · rw [if_neg e, if_neg e, if_neg (fun q => e q.symm)]
    · simp only [h, if_false, mget, ih]
      by_cases e : p.1 = k'
      · simp only [e, if_true]; rw [if_neg (fun q => h (e.trans q))]
      · simp only [e, if_false]
def Sml (t : S_compile_types) : Prop := t.stack_.length < 100000 ∧ t.slots_.length < 100000 ∧ t.loops_.length < 100000
theorem equal_self (n : Nat) (a : List Int) (hn : a.length < n) (hl : a.length < 1000000) : slices_Equal_int_int_54 n a a = some true := by
  unfold slices_Equal_int_int_54
  have h1 := iter_allgo (step := slices_Equal_int_int_54_L1 a a) a.length (.go ()) (fun i hi => by
    unfold slices_Equal_int_int_54_L1
    simp only [show decide ((i : Int) < (a.length : Int)) = true by simp; omega, cond_true]
    rw [idx_get' hi, idx_get' hi, w64 (by omega) (by omega)]
    simp) (by unfold slices_Equal_int_int_54_L1; simp) n hn
  rw [h1]
  simp
theorem same_self (n : Nat) {a : S_compile_types} (h : Sml a) (hn : 100000 ≤ n) : compile_same n a a = some true := by
  obtain ⟨h1, h2, h3⟩ := h
  unfold compile_same
  simp only [equal_self n a.loops_ (by omega) (by omega), equal_self n a.stack_ (by omega) (by omega), equal_self n a.slots_ (by omega) (by omega), obind, Option.bind_some, cond_true, bindJ_go]
/-- free or known to be this -/
def Fr (M : MT) (k : Int) (t : S_compile_types) : Prop := mget M k = none ∨ mget M k = some t
theorem meet_ok {n : Nat} {k : Int} {t : S_compile_types} {M : MT} (h : Sml t) (hn : 100000 ≤ n) (hf : Fr M k t) : ∃ M', compile_Check_1_30 n k t M = some (true, M') ∧ ∀ x, mget M' x = if x = k then some t else mget M x := by
  unfold compile_Check_1_30
  rcases hf with h0 | h0
  · rw [h0]
    exact ⟨_, rfl, fun x => mget_putM _ _ _ _⟩
  · rw [h0]
    simp only [Option.isSome_some, cond_true, Option.getD_some]
    rw [show S_compile_types.mk t.stack_ t.slots_ t.loops_ = t from rfl, same_self n h hn]
    refine ⟨M, rfl, fun x => ?_⟩
    by_cases e : x = k
    · rw [if_pos e, e, h0]
    · rw [if_neg e]
def StC (n : Nat) (m : S_api_Module) (i : Nat) (M : MT) (j : Nat) (M' : MT) : Prop := i ≤ j ∧ ∀ f, iter (compile_Check_L1 n m) (f + (j - i)) ((i : Int), M) = iter (compile_Check_L1 n m) f ((j : Int), M')
theorem StC.refl {n : Nat} {m : S_api_Module} {i : Nat} {M : MT} : StC n m i M i M := ⟨Nat.le_refl _, fun f => by rw [Nat.sub_self]; rfl⟩
theorem StC.trans {n : Nat} {m : S_api_Module} {i j k : Nat} {M M' M'' : MT} (h1 : StC n m i M j M') (h2 : StC n m j M' k M'') : StC n m i M k M'' := by
  obtain ⟨a, h1⟩ := h1
  obtain ⟨b, h2⟩ := h2
  refine ⟨by omega, fun f => ?_⟩
  rw [show f + (k - i) = (f + (k - j)) + (j - i) by omega, h1, h2]
theorem StC.one {n : Nat} {m : S_api_Module} {i : Nat} {M M' : MT} (h : compile_Check_L1 n m ((i : Int), M) = some (.go (((i + 1 : Nat) : Int), M'))) : StC n m i M (i + 1) M' := ⟨by omega, fun f => by rw [show i + 1 - i = 1 by omega]; exact iter_go h⟩
section
variable {n : Nat} {m : S_api_Module} {i : Nat} {M : MT} {x : S_api_Instr} {t u : S_compile_types}
theorem step_plain (hn : 100000 ≤ n) (hl : m.Code.length < 90000) (hx : m.Code[i]? = some x) (ht : mget M i = some t) (ha : weirgate_compile_types_after_32 n t x i = some (u, true)) (hu : Sml u) (h37 : x.Op ≠ 37) (h38 : x.Op ≠ 38) (h40 : x.Op ≠ 40) (hf : Fr M ((i + 1 : Nat) : Int) u) :
    ∃ M', StC n m i M (i + 1) M' ∧ ∀ k, mget M' k = if k = ((i + 1 : Nat) : Int) then some u else mget M k := by
  obtain ⟨hi, _⟩ := List.getElem?_eq_some_iff.1 hx
  obtain ⟨M', hm, hM⟩ := meet_ok hu hn hf
  refine ⟨M', StC.one ?_, hM⟩
  unfold compile_Check_L1
  simp only [show decide ((i : Int) < (m.Code.length : Int)) = true by simp; omega, cond_true]
  rw [idx_get hx, ht]
  simp only [Option.isSome_some, Bool.not_true, cond_false, Option.getD_some]
  rw [show S_compile_types.mk t.stack_ t.slots_ t.loops_ = t from rfl, ha]
  simp only [obind, Option.bind_some, Bool.not_true, cond_false, h37, h38, h40, decide_false, Bool.or_self, bindJ_go, ne_eq, not_false_eq_true, decide_true, cond_true]
  rw [w64 (x := (i : Int) + 1) (by omega) (by omega), show (i : Int) + 1 = ((i + 1 : Nat) : Int) by omega, hm]
  rfl
theorem step_jump {A : Nat} {s : List UInt8} (hn : 100000 ≤ n) (hl : m.Code.length < 90000) (hx : m.Code[i]? = some ⟨37, (A : Int), []⟩) (ht : mget M i = some t) (hu : Sml t) (hA : A ≤ m.Code.length) (hb : A ≤ i → ∃ y, m.Code[A]? = some y ∧ y.Op = 40) (hf : Fr M (A : Int) t) :
    ∃ M', StC n m i M (i + 1) M' ∧ ∀ k, mget M' k = if k = (A : Int) then some t else mget M k := by
  obtain ⟨hi, _⟩ := List.getElem?_eq_some_iff.1 hx
  obtain ⟨M', hm, hM⟩ := meet_ok hu hn hf
  refine ⟨M', StC.one ?_, hM⟩
  unfold compile_Check_L1
  simp only [show decide ((i : Int) < (m.Code.length : Int)) = true by simp; omega, cond_true]
  rw [idx_get hx, ht]
  simp only [Option.isSome_some, Bool.not_true, cond_false, Option.getD_some]
  rw [show S_compile_types.mk t.stack_ t.slots_ t.loops_ = t from rfl, af_37]
  simp only [obind, Option.bind_some, Bool.not_true, cond_false, decide_true, Bool.true_or, cond_true]
  rw [show (decide ((A : Int) < 0) || decide ((m.Code.length : Int) < (A : Int))) = false by simp; omega]
  have hq : (cond (decide ((A : Int) ≤ (i : Int))) (bindJ (S := Bool) (cond (decide ((37 : Int) ≠ 37)) (some (.go true)) (idx m.Code (A : Int) fun x81 => some (.go (decide (x81.Op ≠ 40))))) (fun b75 => some (.go b75))) (some (.go false)) : Option (Lp Bool (Lp Bool (Lp MT (Lp (Int × MT) (Lp MT Int)))))) = some (.go false) := by
    by_cases h : A ≤ i
    · obtain ⟨y, hy, h40⟩ := hb h
      rw [show decide ((A : Int) ≤ (i : Int)) = true by simp; omega]
      simp only [ne_eq, not_true_eq_false, decide_false, cond_true, cond_false]
      rw [idx_get hy, h40]; rfl
    · rw [show decide ((A : Int) ≤ (i : Int)) = false by simp; omega]; rfl
  simp only [cond_false]
  rw [hq]
  simp only [bindJ_go, cond_false]
  rw [show decide ((37 : Int) = 40) = false from rfl]
  simp only [cond_false, bindJ_go]
  rw [show S_compile_types.mk t.stack_ t.slots_ t.loops_ = t from rfl, hm]
  simp only [Option.bind_some, Bool.not_true, cond_false, bindJ_go, ne_eq, not_true_eq_false, decide_false]
  rw [w64 (x := (i : Int) + 1) (by omega) (by omega)]
  rfl
theorem step_unless {A : Nat} {vs L : List Int} (hn : 100000 ≤ n) (hl : m.Code.length < 90000) (hx : m.Code[i]? = some ⟨38, (A : Int), []⟩) (ht : mget M i = some ⟨[3], vs, L⟩) (hu : Sml ⟨[], vs, L⟩) (hA : A ≤ m.Code.length) (hb : i + 1 < A) (hf : Fr M (A : Int) ⟨[], vs, L⟩) (hf1 : Fr M ((i + 1 : Nat) : Int) ⟨[], vs, L⟩) :
    ∃ M', StC n m i M (i + 1) M' ∧ ∀ k, mget M' k = if k = ((i + 1 : Nat) : Int) ∨ k = (A : Int) then some ⟨[], vs, L⟩ else mget M k := by
  obtain ⟨hi, _⟩ := List.getElem?_eq_some_iff.1 hx
  obtain ⟨M1, hm, hM⟩ := meet_ok hu hn hf
  obtain ⟨M', hm2, hM2⟩ := meet_ok (M := M1) (k := ((i + 1 : Nat) : Int)) hu hn (by unfold Fr; rw [hM, if_neg (by omega)]; exact hf1)
  refine ⟨M', StC.one ?_, fun k => ?_⟩
  · unfold compile_Check_L1
    simp only [show decide ((i : Int) < (m.Code.length : Int)) = true by simp; omega, cond_true]
    rw [idx_get hx, ht]
    simp only [Option.isSome_some, Bool.not_true, cond_false, Option.getD_some, af_38]
    simp only [obind, Option.bind_some, Bool.not_true, cond_false, decide_true, Bool.true_or, Bool.or_true, cond_true]
    rw [show (decide ((A : Int) < 0) || decide ((m.Code.length : Int) < (A : Int))) = false by simp; omega, show decide ((A : Int) ≤ (i : Int)) = false by simp; omega]
    simp only [cond_false, bindJ_go]
    rw [show decide ((38 : Int) = 40) = false from rfl]
    simp only [cond_false, bindJ_go, hm, Option.bind_some, Bool.not_true]
    rw [show decide ((38 : Int) ≠ 37) = true from rfl, w64 (x := (i : Int) + 1) (by omega) (by omega), show (i : Int) + 1 = ((i + 1 : Nat) : Int) by omega, hm2]
    rfl
  · rw [hM2, hM]
    by_cases h1 : k = ((i + 1 : Nat) : Int)
    · rw [if_pos h1, if_pos (.inl h1)]
    · rw [if_neg h1]
      by_cases h2 : k = (A : Int)
      · rw [if_pos h2, if_pos (.inr h2)]
      · rw [if_neg h2, if_neg (fun h => h.elim h1 h2)]
theorem step_turn {A : Nat} {vs L : List Int} {e : Int} (hn : 100000 ≤ n) (hl : m.Code.length < 90000) (hx : m.Code[i]? = some ⟨40, (A : Int), []⟩) (ht : mget M i = some ⟨[], vs, L ++ [e]⟩) (hu : Sml ⟨[], vs, L ++ [e]⟩) (hA : A ≤ m.Code.length) (hb : i + 1 < A) (hf : Fr M (A : Int) ⟨[], vs, L⟩) (hf1 : Fr M ((i + 1 : Nat) : Int) ⟨[], vs, L ++ [e]⟩) :
    ∃ M', StC n m i M (i + 1) M' ∧ ∀ k, mget M' k = if k = ((i + 1 : Nat) : Int) then some ⟨[], vs, L ++ [e]⟩ else if k = (A : Int) then some ⟨[], vs, L⟩ else mget M k := by
  obtain ⟨hi, _⟩ := List.getElem?_eq_some_iff.1 hx
  have hu2 : Sml ⟨[], vs, L⟩ := ⟨hu.1, hu.2.1, by have := hu.2.2; simp only [List.length_append] at this ⊢; omega⟩
  obtain ⟨M1, hm, hM⟩ := meet_ok hu2 hn hf
  obtain ⟨M', hm2, hM2⟩ := meet_ok (M := M1) (k := ((i + 1 : Nat) : Int)) hu hn (by unfold Fr; rw [hM, if_neg (by omega)]; exact hf1)
  refine ⟨M', StC.one ?_, fun k => ?_⟩
  · unfold compile_Check_L1
    simp only [show decide ((i : Int) < (m.Code.length : Int)) = true by simp; omega, cond_true]
    rw [idx_get hx, ht]
    simp only [Option.isSome_some, Bool.not_true, cond_false, Option.getD_some]
    rw [af_40 (by simp)]
    simp only [obind, Option.bind_some, Bool.not_true, cond_false, decide_true, Bool.true_or, Bool.or_true, cond_true]
    rw [show (decide ((A : Int) < 0) || decide ((m.Code.length : Int) < (A : Int))) = false by simp; omega, show decide ((A : Int) ≤ (i : Int)) = false by simp; omega]
    simp only [cond_false, bindJ_go, List.length_append, List.length_cons, List.length_nil]
    have hL := hu2.2.2
    simp only at hL
    rw [w64 (x := ((L.length + (0 + 1) : Nat) : Int) - 1) (by omega) (by omega), show ((L.length + (0 + 1) : Nat) : Int) - 1 = (L.length : Int) by omega, need_pos (by omega)]
    simp only [Int.toNat_natCast, List.take_left, bindJ_go, hm, Option.bind_some, Bool.not_true, cond_false]
    rw [show decide ((40 : Int) ≠ 37) = true from rfl, w64 (x := (i : Int) + 1) (by omega) (by omega), show (i : Int) + 1 = ((i + 1 : Nat) : Int) by omega, hm2]
    rfl
  · rw [hM2, hM]
end
end Go.Proofs.Ytgjdaamkfpbgpaa
