/-
  Texts that stand side by side: Pa, Pb, Pc, Pd, Pe, W3, P3, AbsEnd3, AbsEnd4, AbsEnd5, Opn, Opq.
-/
import Derived.Test.YtgjdaamkfpbgpaaM1
import Derived.Test.YtgjdaamkfpbgpaaG3d
import Derived.KernelRfl
import Derived.Test.YtgjdaamkfpbgpaaM0
import Derived.ChangeArms
import Derived.Test.YtgjdaamkfpbgpaaRows
namespace Go.Proofs.Ytgjdaamkfpbgpaa
open Go.Abs
set_option linter.unusedVariables false
set_option linter.unusedSimpArgs false

mutual
def S_api_TExpr.nodes : S_api_TExpr → Nat
  | ⟨_, _, _, _, _, l⟩ => 1 + nodesL l
def nodesL : List S_api_TExpr → Nat
  | [] => 0
  | x :: r => x.nodes + nodesL r
end
mutual
def S_api_TStmt.nodes : S_api_TStmt → Nat
  | ⟨_, _, _, _, x, b, e⟩ => 1 + x.nodes + nodesB b + nodesB e
def nodesB : List S_api_TStmt → Nat
  | [] => 0
  | x :: r => x.nodes + nodesB r
end
theorem nodes_eq (x : S_api_TExpr) : x.nodes = 1 + nodesL x.Args := by cases x; simp [S_api_TExpr.nodes]
theorem nodesS_eq (x : S_api_TStmt) : x.nodes = 1 + x.X.nodes + nodesB x.Body + nodesB x.Else := by cases x; simp [S_api_TStmt.nodes]
theorem nodesL_len : ∀ (l : List S_api_TExpr), l.length ≤ nodesL l
  | [] => by simp [nodesL]
  | x :: r => by have := nodesL_len r; have := nodes_eq x; simp only [nodesL, List.length_cons]; omega
theorem nodesB_len : ∀ (l : List S_api_TStmt), l.length ≤ nodesB l
  | [] => by simp [nodesB]
  | x :: r => by have := nodesB_len r; have := nodesS_eq x; simp only [nodesB, List.length_cons]; omega
theorem nodesL_get : ∀ (l : List S_api_TExpr) (i : Nat) (x : S_api_TExpr), l[i]? = some x → x.nodes ≤ nodesL l
  | y :: r, 0, x, h => by simp at h; subst h; simp [nodesL]
  | y :: r, i + 1, x, h => by have := nodesL_get r i x (by simpa using h); simp only [nodesL]; omega
theorem nodesB_get : ∀ (l : List S_api_TStmt) (i : Nat) (x : S_api_TStmt), l[i]? = some x → x.nodes ≤ nodesB l
  | y :: r, 0, x, h => by simp at h; subst h; simp [nodesB]
  | y :: r, i + 1, x, h => by have := nodesB_get r i x (by simpa using h); simp only [nodesB]; omega

mutual
def cE : S_api_TExpr → List S_api_Instr
  | ⟨op, _, n, slot, s, l⟩ => cEL l ++ [⟨op, if op = 23 then (l.length : Int) else if op = 3 then slot else if op = 1 then n else 0, if op = 2 ∨ op = 6 then s else []⟩]
def cEL : List S_api_TExpr → List S_api_Instr
  | [] => []
  | x :: r => cE x ++ cEL r
end
theorem cE_eq (x : S_api_TExpr) : cE x = cEL x.Args ++ [⟨x.Op, if x.Op = 23 then (x.Args.length : Int) else if x.Op = 3 then x.Slot else if x.Op = 1 then x.N else 0, if x.Op = 2 ∨ x.Op = 6 then x.S else []⟩] := by cases x; simp [cE]
mutual
theorem cE_len : ∀ (x : S_api_TExpr), (cE x).length = x.nodes
  | ⟨op, _, n, slot, s, l⟩ => by simp [cE, S_api_TExpr.nodes, cEL_len l]; omega
theorem cEL_len : ∀ (l : List S_api_TExpr), (cEL l).length = nodesL l
  | [] => rfl
  | x :: r => by simp [cEL, nodesL, cE_len x, cEL_len r]
end
def lastI (s : S_api_TStmt) : S_api_Instr :=
  if s.Kind = 1 ∨ s.Kind = 2 then ⟨31, s.Slot, []⟩ else if s.Kind = 3 then ⟨32, 0, s.Name⟩ else if s.Kind = 4 then ⟨33, 0, []⟩ else if s.Kind = 7 then ⟨34, 0, []⟩ else if s.Kind = 8 then ⟨35, 0, []⟩ else ⟨36, 0, []⟩
mutual
def cS : S_api_TStmt → Nat → Int → List S_api_Instr
  | ⟨kind, slot, n, name, x, b, e⟩, pos, d =>
    if kind = 6 then
      let k := cB b (pos + 3) d
      [⟨30, 0, []⟩, ⟨39, n, []⟩, ⟨40, (pos + 5 + k.length : Nat), []⟩] ++ k ++ [⟨41, d, []⟩, ⟨37, (pos + 2 : Nat), []⟩]
    else if kind = 5 then
      let q := cE x
      let k := cB b (pos + 2 + q.length) d
      let j := cB e (pos + 4 + q.length + k.length) d
      [⟨30, 0, []⟩] ++ q ++ [⟨38, (pos + 4 + q.length + k.length : Nat), []⟩] ++ k ++ [⟨41, d, []⟩, ⟨37, (pos + 5 + q.length + k.length + j.length : Nat), []⟩] ++ j ++ [⟨41, d, []⟩]
    else [⟨30, 0, []⟩] ++ cE x ++ [lastI ⟨kind, slot, n, name, x, b, e⟩]
def cB : List S_api_TStmt → Nat → Int → List S_api_Instr
  | [], _, _ => []
  | s :: r, pos, d => cS s pos d ++ cB r (pos + (cS s pos d).length) (if s.Kind = 1 then d + 1 else d)
end
mutual
theorem cS_len : ∀ (s : S_api_TStmt) (pos : Nat) (d : Int), (cS s pos d).length ≤ 7 * s.nodes
  | ⟨kind, slot, n, name, x, b, e⟩, pos, d => by
    have hx := cE_len x
    have hn := nodes_eq x
    have hb := cB_len b (pos + 3) d
    have hb2 := cB_len b (pos + 2 + (cE x).length) d
    have he := cB_len e (pos + 4 + (cE x).length + (cB b (pos + 2 + (cE x).length) d).length) d
    simp only [cS, S_api_TStmt.nodes]
    split
    · simp; omega
    · split
      · simp; omega
      · simp; omega
theorem cB_len : ∀ (l : List S_api_TStmt) (pos : Nat) (d : Int), (cB l pos d).length ≤ 7 * nodesB l
  | [], _, _ => by simp [cB]
  | s :: r, pos, d => by
    have h1 := cS_len s pos d
    have h2 := cB_len r (pos + (cS s pos d).length) (if s.Kind = 1 then d + 1 else d)
    simp only [cB, nodesB, List.length_append]; omega
end
/-- a loop along a list with places -/
theorem iter_at {α T R : Type} {step : T → Option (Lp T R)} {l : List α} (mk : Nat → T) (r : R)
    (hgo : ∀ (i : Nat) x, l[i]? = some x → step (mk i) = some (.go (mk (i + 1)))) (hend : step (mk l.length) = some (.stop r)) :
    ∀ (n i : Nat), i ≤ l.length → l.length - i < n → iter step n (mk i) = some r
  | 0, i, _, h => by omega
  | n + 1, i, hle, h => by
    by_cases e : i = l.length
    · subst e; exact iter_stop hend
    · have hlt : i < l.length := by omega
      rw [iter_go (hgo i _ (List.getElem?_eq_getElem hlt))]
      exact iter_at mk r hgo hend n (i + 1) (by omega) (by omega)
theorem cEL_take : ∀ (l : List S_api_TExpr) (i : Nat) (x : S_api_TExpr), l[i]? = some x → cEL (l.take (i + 1)) = cEL (l.take i) ++ cE x
  | y :: r, 0, x, h => by simp at h; subst h; simp [cEL]
  | y :: r, i + 1, x, h => by simp only [List.take_succ_cons, cEL]; rw [cEL_take r i x (by simpa using h)]; simp
theorem nodesL_takeS : ∀ (l : List S_api_TExpr) (i : Nat) (x : S_api_TExpr), l[i]? = some x → nodesL (l.take i) + x.nodes ≤ nodesL l
  | y :: r, 0, x, h => by simp at h; subst h; simp [nodesL]
  | y :: r, i + 1, x, h => by simp only [List.take_succ_cons, nodesL]; have := nodesL_takeS r i x (by simpa using h); omega
theorem i64_succ {i N : Nat} (h : i ≤ N) (hN : N ≤ 1073741824) : IntKind.i64.wrap ((i : Int) + 1) = ((i + 1 : Nat) : Int) := by rw [w64 (by omega) (by omega)]; try omega

theorem put_ok {out : List S_api_Instr} {op a : Int} {s : List UInt8} (h : out.length < 1073741824) : weirgate_compile_maker_put_41 ⟨out⟩ op a s = some ((out.length : Int), ⟨out ++ [⟨op, a, s⟩]⟩) := by
  unfold weirgate_compile_maker_put_41
  rw [need_pos (by simp; omega)]
  rw [w64 (by simp) (by simp; omega)]
  simp
theorem cexpr : ∀ (n : Nat) (x : S_api_TExpr) (out : List S_api_Instr), x.nodes < n → out.length + x.nodes < 1073741824 → weirgate_compile_maker_expr_42 n ⟨out⟩ x = some ⟨out ++ cE x⟩
  | 0, x, out, h, _ => by omega
  | n + 1, x, out, h, hl => by
    have hn := nodes_eq x
    have hlen := nodesL_len x.Args
    show weirgate_compile_maker_expr_42_body n (weirgate_compile_maker_expr_42 n) ⟨out⟩ x = _
    unfold weirgate_compile_maker_expr_42_body
    have hloop : iter (weirgate_compile_maker_expr_42_L1 x (weirgate_compile_maker_expr_42 n)) n (0, out) = some (.go (out ++ cEL x.Args)) := by
      have := iter_at (l := x.Args) (step := weirgate_compile_maker_expr_42_L1 x (weirgate_compile_maker_expr_42 n)) (fun i => ((i : Int), out ++ cEL (x.Args.take i))) (.go (out ++ cEL x.Args)) (fun i y hy => by
          have hlt := (List.getElem?_eq_some_iff.1 hy).1
          have hny := nodesL_takeS _ _ _ hy
          have hcl := cEL_len (x.Args.take i)
          unfold weirgate_compile_maker_expr_42_L1
          simp only [show decide ((i : Int) < (x.Args.length : Int)) = true by simp; omega, cond_true]
          rw [idx_get hy, cexpr n y _ (by omega) (by simp [hcl]; omega)]
          simp only [obind, Option.bind_some]
          rw [i64_succ (N := x.Args.length) (by omega) (by omega), cEL_take _ _ _ hy]; simp) (by
          unfold weirgate_compile_maker_expr_42_L1; simp) n 0 (by omega) (by omega)
      simpa [cEL] using this
    have hcl := cEL_len x.Args
    have hp : ∀ (a : Int) (s : List UInt8), weirgate_compile_maker_put_41 ⟨out ++ cEL x.Args⟩ x.Op a s = some (((out ++ cEL x.Args).length : Int), ⟨(out ++ cEL x.Args) ++ [⟨x.Op, a, s⟩]⟩) := fun a s => put_ok (by simp [hcl]; omega)
    simp only [hloop, bindJ_go]
    rw [cE_eq]
    by_cases h1 : x.Op = 1
    · simp [h1, hp, obind] at *; simp [hp, h1]
    · by_cases h3 : x.Op = 3
      · simp [h3, hp, obind] at *; simp [hp, h3]
      · by_cases h2 : x.Op = 2
        · simp [h2, hp, obind] at *; simp [hp, h2]
        · by_cases h6 : x.Op = 6
          · simp [h6, hp, obind] at *; simp [hp, h6]
          · by_cases h23 : x.Op = 23
            · simp [h23, hp, obind] at *; simp [hp, h23]
            · simp [h1, h2, h3, h6, h23, hp, obind]
theorem rexpr : ∀ (n : Nat) (x : S_api_TExpr) (out : List S_api_Instr), x.nodes < n → out.length + x.nodes < 1073741824 → ref28_expr_v4 n out x = some (out ++ cE x)
  | 0, x, out, h, _ => by omega
  | n + 1, x, out, h, hl => by
    have hn := nodes_eq x
    have hlen := nodesL_len x.Args
    show ref28_expr_v4_body n (ref28_expr_v4 n) out x = _
    unfold ref28_expr_v4_body
    have hloop : iter (ref28_expr_v4_L1 x (ref28_expr_v4 n)) n (out, 0) = some (.go (out ++ cEL x.Args)) := by
      have := iter_at (l := x.Args) (step := ref28_expr_v4_L1 x (ref28_expr_v4 n)) (fun i => (out ++ cEL (x.Args.take i), (i : Int))) (.go (out ++ cEL x.Args)) (fun i y hy => by
          have hlt := (List.getElem?_eq_some_iff.1 hy).1
          have hny := nodesL_takeS _ _ _ hy
          have hcl := cEL_len (x.Args.take i)
          unfold ref28_expr_v4_L1
          simp only [show decide ((i : Int) < (x.Args.length : Int)) = true by simp; omega, cond_true]
          rw [idx_get hy, rexpr n y _ (by omega) (by simp [hcl]; omega)]
          simp only [obind, Option.bind_some]
          rw [i64_succ (N := x.Args.length) (by omega) (by omega), cEL_take _ _ _ hy]; simp) (by
          unfold ref28_expr_v4_L1; simp) n 0 (by omega) (by omega)
      simpa [cEL] using this
    have hcl := cEL_len x.Args
    simp only [hloop, bindJ_go, bindJ_cond]
    rw [cE_eq]
    have hne : out.length + (cEL x.Args).length ≤ 4294967295 := by rw [hcl]; omega
    by_cases h1 : x.Op = 1
    · simp [h1, need, hne]
    · by_cases h3 : x.Op = 3
      · simp [h3, need, hne]
      · by_cases h2 : x.Op = 2
        · simp [h2, need, hne]
        · by_cases h6 : x.Op = 6
          · simp [h6, need, hne]
          · by_cases h23 : x.Op = 23
            · simp [h23, need, hne]
            · simp [h1, h2, h3, h6, h23, need, hne]
end Go.Proofs.Ytgjdaamkfpbgpaa
namespace Go.Proofs.Ytgjdaamkfpbgpaa
open Go.Abs
set_option linter.unusedVariables false
set_option linter.unusedSimpArgs false

mutual
def okS : S_api_TStmt → Prop
  | ⟨k, _, _, _, _, b, e⟩ => (1 ≤ k ∧ k ≤ 9) ∧ okB b ∧ okB e
def okB : List S_api_TStmt → Prop
  | [] => True
  | x :: r => okS x ∧ okB r
end
theorem okS_eq (x : S_api_TStmt) : okS x ↔ (1 ≤ x.Kind ∧ x.Kind ≤ 9) ∧ okB x.Body ∧ okB x.Else := by cases x; simp [okS]
theorem okB_get : ∀ (l : List S_api_TStmt) (i : Nat) (x : S_api_TStmt), okB l → l[i]? = some x → okS x
  | y :: r, 0, x, ho, h => by simp at h; subst h; exact ho.1
  | y :: r, i + 1, x, ho, h => okB_get r i x ho.2 (by simpa using h)
def dK : List S_api_TStmt → Int → Int
  | [], d => d
  | s :: r, d => dK r (if s.Kind = 1 then d + 1 else d)
theorem dK_take : ∀ (l : List S_api_TStmt) (i : Nat) (x : S_api_TStmt) (d : Int), l[i]? = some x → dK (l.take (i + 1)) d = if x.Kind = 1 then dK (l.take i) d + 1 else dK (l.take i) d
  | y :: r, 0, x, d, h => by simp at h; subst h; simp [dK]
  | y :: r, i + 1, x, d, h => by simp only [List.take_succ_cons, dK]; exact dK_take r i x _ (by simpa using h)
theorem dK_le : ∀ (l : List S_api_TStmt) (d : Int), d ≤ dK l d ∧ dK l d ≤ d + l.length
  | [], d => by simp [dK]
  | s :: r, d => by have := dK_le r (if s.Kind = 1 then d + 1 else d); simp only [dK, List.length_cons]; split at this <;> simp_all <;> omega
theorem cB_take : ∀ (l : List S_api_TStmt) (i : Nat) (x : S_api_TStmt) (pos : Nat) (d : Int), l[i]? = some x → cB (l.take (i + 1)) pos d = cB (l.take i) pos d ++ cS x (pos + (cB (l.take i) pos d).length) (dK (l.take i) d)
  | y :: r, 0, x, pos, d, h => by simp at h; subst h; simp [cB, dK]
  | y :: r, i + 1, x, pos, d, h => by
    simp only [List.take_succ_cons, cB, dK]
    rw [cB_take r i x _ _ (by simpa using h)]
    simp [Nat.add_assoc]
theorem nodesB_takeS : ∀ (l : List S_api_TStmt) (i : Nat) (x : S_api_TStmt), l[i]? = some x → nodesB (l.take i) + x.nodes ≤ nodesB l
  | y :: r, 0, x, h => by simp at h; subst h; simp [nodesB]
  | y :: r, i + 1, x, h => by simp only [List.take_succ_cons, nodesB]; have := nodesB_takeS r i x (by simpa using h); omega
theorem set_mid {α : Type} (a b : List α) (x y : α) : (a ++ x :: b).set a.length y = a ++ y :: b := by simp [List.set_append]
theorem get_mid {α : Type} (a b : List α) (x : α) : (a ++ x :: b)[a.length]? = some x := by simp
theorem cS6 (x : S_api_TStmt) (pos : Nat) (d : Int) (h : x.Kind = 6) : cS x pos d = [(S_api_Instr.mk 30 (0) []), (S_api_Instr.mk 39 (x.N) []), (S_api_Instr.mk 40 ((pos + 5 + (cB x.Body (pos + 3) d).length : Nat)) [])] ++ cB x.Body (pos + 3) d ++ [(S_api_Instr.mk 41 (d) []), (S_api_Instr.mk 37 ((pos + 2 : Nat)) [])] := by
  cases x; simp only at h; subst h; simp [cS]
theorem cS5 (x : S_api_TStmt) (pos : Nat) (d : Int) (h : x.Kind = 5) {q k j : List S_api_Instr} (hq : q = cE x.X) (hk : k = cB x.Body (pos + 2 + q.length) d) (hj : j = cB x.Else (pos + 4 + q.length + k.length) d) :
    cS x pos d = [(S_api_Instr.mk 30 (0) [])] ++ q ++ [(S_api_Instr.mk 38 ((pos + 4 + q.length + k.length : Nat)) [])] ++ k ++ [(S_api_Instr.mk 41 (d) []), (S_api_Instr.mk 37 ((pos + 5 + q.length + k.length + j.length : Nat)) [])] ++ j ++ [(S_api_Instr.mk 41 (d) [])] := by
  cases x; simp only at h; subst h; subst hj; subst hk; subst hq; simp [cS]
theorem cSo (x : S_api_TStmt) (pos : Nat) (d : Int) (h5 : x.Kind ≠ 5) (h6 : x.Kind ≠ 6) : cS x pos d = [(S_api_Instr.mk 30 (0) [])] ++ cE x.X ++ [lastI x] := by
  cases x; simp only at h5 h6; simp [cS, h5, h6]

section
variable {rec : S_compile_maker → List S_api_TStmt → Int → Option S_compile_maker}
theorem block60 {out k : List S_api_Instr} {l : List S_api_TStmt} {d : Int} (h : rec ⟨out⟩ l d = some ⟨out ++ k⟩) (hl : out.length + k.length < 1073741824) :
    weirgate_compile_maker_block_60 rec ⟨out⟩ l d = some ⟨out ++ k ++ [(S_api_Instr.mk 41 (d) [])]⟩ := by
  unfold weirgate_compile_maker_block_60
  simp only [h, obind, Option.bind_some]
  rw [put_ok (by simp; omega)]; rfl
theorem branch_ok {out k j : List S_api_Instr} {x : S_api_TStmt} {d : Int} (hb : rec ⟨out ++ [(S_api_Instr.mk 38 (0) [])]⟩ x.Body d = some ⟨(out ++ [(S_api_Instr.mk 38 (0) [])]) ++ k⟩)
    (he : rec ⟨out ++ [(S_api_Instr.mk 38 ((out.length + k.length + 3 : Nat)) [])] ++ k ++ [(S_api_Instr.mk 41 (d) []), (S_api_Instr.mk 37 (0) [])]⟩ x.Else d = some ⟨(out ++ [(S_api_Instr.mk 38 ((out.length + k.length + 3 : Nat)) [])] ++ k ++ [(S_api_Instr.mk 41 (d) []), (S_api_Instr.mk 37 (0) [])]) ++ j⟩)
    (hl : out.length + k.length + j.length + 6 < 1073741824) :
    weirgate_compile_maker_branch_39 rec ⟨out⟩ x d = some ⟨out ++ [(S_api_Instr.mk 38 ((out.length + k.length + 3 : Nat)) [])] ++ k ++ [(S_api_Instr.mk 41 (d) []), (S_api_Instr.mk 37 ((out.length + k.length + j.length + 4 : Nat)) [])] ++ j ++ [(S_api_Instr.mk 41 (d) [])]⟩ := by
  unfold weirgate_compile_maker_branch_39
  rw [put_ok (by omega)]
  simp only [obind, Option.bind_some]
  rw [block60 hb (by simp; omega)]
  simp only [Option.bind_some]
  rw [put_ok (by simp; omega)]
  simp only [Option.bind_some]
  rw [show out ++ [(S_api_Instr.mk 38 (0) [])] ++ k ++ [(S_api_Instr.mk 41 (d) [])] ++ [(S_api_Instr.mk 37 (0) [])] = out ++ (S_api_Instr.mk 38 (0) []) :: (k ++ [(S_api_Instr.mk 41 (d) []), (S_api_Instr.mk 37 (0) [])]) by simp]
  rw [idx_get (get_mid _ _ _)]
  simp only [Int.toNat_natCast]
  rw [set_mid]
  rw [show out ++ S_api_Instr.mk 38 (((out ++ S_api_Instr.mk 38 0 [] :: (k ++ [S_api_Instr.mk 41 d [], S_api_Instr.mk 37 0 []])).length : Nat) : Int) [] :: (k ++ [S_api_Instr.mk 41 d [], S_api_Instr.mk 37 0 []]) = out ++ [S_api_Instr.mk 38 (out.length + k.length + 3 : Nat) []] ++ k ++ [S_api_Instr.mk 41 d [], S_api_Instr.mk 37 0 []] by simp; omega]
  rw [block60 he (by simp; omega)]
  simp only [Option.bind_some]
  rw [show out ++ [(S_api_Instr.mk 38 ((out.length + k.length + 3 : Nat)) [])] ++ k ++ [(S_api_Instr.mk 41 (d) []), (S_api_Instr.mk 37 (0) [])] ++ j ++ [(S_api_Instr.mk 41 (d) [])] = (out ++ [(S_api_Instr.mk 38 ((out.length + k.length + 3 : Nat)) [])] ++ k ++ [(S_api_Instr.mk 41 (d) [])]) ++ (S_api_Instr.mk 37 (0) []) :: (j ++ [(S_api_Instr.mk 41 (d) [])]) by simp]
  rw [show (out ++ [(S_api_Instr.mk 38 (0) [])] ++ k ++ [(S_api_Instr.mk 41 (d) [])]).length = (out ++ [(S_api_Instr.mk 38 ((out.length + k.length + 3 : Nat)) [])] ++ k ++ [(S_api_Instr.mk 41 (d) [])]).length by simp]
  rw [idx_get (get_mid _ _ _)]
  simp only [Int.toNat_natCast]
  rw [set_mid]
  simp; omega
theorem repeat_ok {out k : List S_api_Instr} {x : S_api_TStmt} {d : Int} (hb : rec ⟨out ++ [(S_api_Instr.mk 39 (x.N) []), (S_api_Instr.mk 40 (0) [])]⟩ x.Body d = some ⟨(out ++ [(S_api_Instr.mk 39 (x.N) []), (S_api_Instr.mk 40 (0) [])]) ++ k⟩)
    (hl : out.length + k.length + 6 < 1073741824) :
    weirgate_compile_maker_repeat_40 rec ⟨out⟩ x d = some ⟨out ++ [(S_api_Instr.mk 39 (x.N) []), (S_api_Instr.mk 40 ((out.length + k.length + 4 : Nat)) [])] ++ k ++ [(S_api_Instr.mk 41 (d) []), (S_api_Instr.mk 37 ((out.length + 1 : Nat)) [])]⟩ := by
  unfold weirgate_compile_maker_repeat_40
  rw [put_ok (by omega)]
  simp only [obind, Option.bind_some]
  rw [put_ok (by simp; omega)]
  simp only [Option.bind_some]
  rw [show out ++ [(S_api_Instr.mk 39 (x.N) [])] ++ [(S_api_Instr.mk 40 (0) [])] = out ++ [(S_api_Instr.mk 39 (x.N) []), (S_api_Instr.mk 40 (0) [])] by simp]
  rw [block60 hb (by simp; omega)]
  simp only [Option.bind_some]
  rw [put_ok (by simp; omega)]
  simp only [Option.bind_some]
  rw [show out ++ [(S_api_Instr.mk 39 (x.N) []), (S_api_Instr.mk 40 (0) [])] ++ k ++ [(S_api_Instr.mk 41 (d) [])] ++ [(S_api_Instr.mk 37 (((out ++ [(S_api_Instr.mk 39 (x.N) [])]).length : Int)) [])] = (out ++ [(S_api_Instr.mk 39 (x.N) [])]) ++ (S_api_Instr.mk 40 (0) []) :: (k ++ [(S_api_Instr.mk 41 (d) []), (S_api_Instr.mk 37 (((out ++ [(S_api_Instr.mk 39 (x.N) [])]).length : Int)) [])]) by simp]
  rw [idx_get (get_mid _ _ _)]
  simp only [Int.toNat_natCast]
  rw [set_mid]
  simp; omega
end
theorem ccode : ∀ (n : Nat) (l : List S_api_TStmt) (out : List S_api_Instr) (d : Int), okB l → nodesB l + 1 < n → out.length + 7 * nodesB l + 100 < 1073741824 → 0 ≤ d → d + nodesB l < 1073741824 →
    weirgate_compile_maker_code_21 n ⟨out⟩ l d = some ⟨out ++ cB l out.length d⟩
  | 0, l, out, d, _, h, _, _, _ => by omega
  | n + 1, l, out, d, ho, h, hl, hd, hdl => by
    have hlen := nodesB_len l
    show weirgate_compile_maker_code_21_body n (weirgate_compile_maker_code_21 n) ⟨out⟩ l d = _
    unfold weirgate_compile_maker_code_21_body
    have := iter_at (l := l) (step := weirgate_compile_maker_code_21_L1 n l (weirgate_compile_maker_code_21 n)) (fun i => (dK (l.take i) d, (i : Int), out ++ cB (l.take i) out.length d)) ⟨out ++ cB l out.length d⟩ (fun i x hx => by
      have hlt := (List.getElem?_eq_some_iff.1 hx).1
      have hnx := nodesB_takeS _ _ _ hx
      have hcl := cB_len (l.take i) out.length d
      have hcs := cS_len x (out.length + (cB (l.take i) out.length d).length) (dK (l.take i) d)
      have hdk := dK_le (l.take i) d
      have hnl := nodesB_len (l.take i)
      have hne := nodesS_eq x
      have hcx := cE_len x.X
      have hxn := nodes_eq x.X
      obtain ⟨⟨ok1, ok2⟩, okb, oke⟩ := (okS_eq x).1 (okB_get _ _ _ ho hx)
      rw [dK_take _ _ _ _ hx, cB_take _ _ _ _ _ hx]
      generalize hD : dK (l.take i) d = D at *
      generalize hO : out ++ cB (l.take i) out.length d = O at *
      have hOl : O.length = out.length + (cB (l.take i) out.length d).length := by rw [← hO]; simp
      rw [← List.append_assoc, hO, ← hOl]
      rw [← hOl] at hcs
      unfold weirgate_compile_maker_code_21_L1
      simp only [show decide ((i : Int) < (l.length : Int)) = true by simp; omega, cond_true]
      rw [idx_get hx, put_ok (by omega)]
      simp only [obind, Option.bind_some]
      rw [i64_succ (N := l.length) (by omega) (by omega)]
      by_cases h6 : x.Kind = 6
      · rw [cS6 _ _ _ h6] at hcs ⊢
        have hb := ccode n x.Body (O ++ [(S_api_Instr.mk 30 (0) [])] ++ [(S_api_Instr.mk 39 (x.N) []), (S_api_Instr.mk 40 (0) [])]) D okb (by omega) (by simp; omega) (by omega) (by omega)
        rw [show (O ++ [(S_api_Instr.mk 30 (0) [])] ++ [(S_api_Instr.mk 39 (x.N) []), (S_api_Instr.mk 40 (0) [])]).length = O.length + 3 by simp] at hb
        have hr := repeat_ok hb (by simp at hcs ⊢; omega)
        simp [h6, hr]
        omega
      · by_cases h5 : x.Kind = 5
        · have hb := ccode n x.Body (O ++ [(S_api_Instr.mk 30 (0) [])] ++ cE x.X ++ [(S_api_Instr.mk 38 (0) [])]) D okb (by omega) (by simp; omega) (by omega) (by omega)
          rw [show (O ++ [(S_api_Instr.mk 30 (0) [])] ++ cE x.X ++ [(S_api_Instr.mk 38 (0) [])]).length = O.length + 2 + (cE x.X).length by simp; omega] at hb
          have hbl := cB_len x.Body (O.length + 2 + (cE x.X).length) D
          generalize hk : cB x.Body (O.length + 2 + (cE x.X).length) D = k at *
          have he := ccode n x.Else (O ++ [(S_api_Instr.mk 30 (0) [])] ++ cE x.X ++ [(S_api_Instr.mk 38 (((O ++ [(S_api_Instr.mk 30 (0) [])] ++ cE x.X).length + k.length + 3 : Nat)) [])] ++ k ++ [(S_api_Instr.mk 41 (D) []), (S_api_Instr.mk 37 (0) [])]) D oke (by omega) (by simp; omega) (by omega) (by omega)
          rw [show (O ++ [(S_api_Instr.mk 30 (0) [])] ++ cE x.X ++ [(S_api_Instr.mk 38 (((O ++ [(S_api_Instr.mk 30 (0) [])] ++ cE x.X).length + k.length + 3 : Nat)) [])] ++ k ++ [(S_api_Instr.mk 41 (D) []), (S_api_Instr.mk 37 (0) [])]).length = O.length + 4 + (cE x.X).length + k.length by simp; omega] at he
          have hel := cB_len x.Else (O.length + 4 + (cE x.X).length + k.length) D
          have hr := branch_ok hb he (by simp; omega)
          have hX := cexpr n x.X (O ++ [(S_api_Instr.mk 30 (0) [])]) (by omega) (by simp; omega)
          have hres : O ++ cS x O.length D = (O ++ [(S_api_Instr.mk 30 (0) [])] ++ cE x.X) ++ [(S_api_Instr.mk 38 (((O ++ [(S_api_Instr.mk 30 (0) [])] ++ cE x.X).length + k.length + 3 : Nat)) [])] ++ k ++ [(S_api_Instr.mk 41 D []), (S_api_Instr.mk 37 (((O ++ [(S_api_Instr.mk 30 (0) [])] ++ cE x.X).length + k.length + (cB x.Else (O.length + 4 + (cE x.X).length + k.length) D).length + 4 : Nat)) [])] ++ cB x.Else (O.length + 4 + (cE x.X).length + k.length) D ++ [(S_api_Instr.mk 41 D [])] := by
            rw [cS5 x O.length D h5 rfl hk.symm rfl]; simp; omega
          rw [hres]
          simp only [show decide (x.Kind ≠ 6) = true by simpa using h6, cond_true, hX, Option.bind_some, bindJ_go]
          generalize O ++ [(S_api_Instr.mk 30 (0) [])] ++ cE x.X = Q at hr ⊢
          simp [h5, hr]
        · have hX := cexpr n x.X (O ++ [(S_api_Instr.mk 30 (0) [])]) (by omega) (by simp; omega)
          have hp : ∀ (op a : Int) (s : List UInt8), weirgate_compile_maker_put_41 ⟨O ++ [(S_api_Instr.mk 30 (0) [])] ++ cE x.X⟩ op a s = some (((O ++ [(S_api_Instr.mk 30 (0) [])] ++ cE x.X).length : Int), ⟨(O ++ [(S_api_Instr.mk 30 (0) [])] ++ cE x.X) ++ [⟨op, a, s⟩]⟩) := fun op a s => put_ok (by simp; omega)
          rw [cSo x _ _ h5 h6, show O ++ ([(S_api_Instr.mk 30 (0) [])] ++ cE x.X ++ [lastI x]) = (O ++ [(S_api_Instr.mk 30 (0) [])] ++ cE x.X) ++ [lastI x] by simp]
          simp only [show decide (x.Kind ≠ 6) = true by simpa using h6, cond_true, hX, Option.bind_some, bindJ_go]
          generalize O ++ [(S_api_Instr.mk 30 (0) [])] ++ cE x.X = Q at hp ⊢
          have hk9 : x.Kind = 1 ∨ x.Kind = 2 ∨ x.Kind = 3 ∨ x.Kind = 4 ∨ x.Kind = 7 ∨ x.Kind = 8 ∨ x.Kind = 9 := by omega
          rcases hk9 with h | h | h | h | h | h | h
          · rw [w64 (by omega) (by omega)]
            simp [h, weirgate_compile_maker_store_36, hp, obind, lastI]
          · simp [h, weirgate_compile_maker_store_36, hp, obind, lastI]
          · simp [h, weirgate_compile_maker_header_37, hp, obind, lastI]
          · simp [h, weirgate_compile_maker_plain_38, hp, obind, lastI, mget, mput]
          · simp [h, weirgate_compile_maker_plain_38, hp, obind, lastI, mget, mput]
          · simp [h, weirgate_compile_maker_plain_38, hp, obind, lastI, mget, mput]
          · simp [h, weirgate_compile_maker_plain_38, hp, obind, lastI, mget, mput]) (by
      unfold weirgate_compile_maker_code_21_L1; simp) n 0 (by omega) (by omega)
    simpa [cB, dK] using this
end Go.Proofs.Ytgjdaamkfpbgpaa
namespace Go.Proofs.Ytgjdaamkfpbgpaa
open Go.Abs
set_option linter.unusedVariables false
set_option linter.unusedSimpArgs false

theorem last_ok (x : S_api_TStmt) : ref28_last x = some (lastI x) := by
  unfold ref28_last lastI
  by_cases h1 : x.Kind = 1
  · simp [h1]
  · by_cases h2 : x.Kind = 2
    · simp [h1, h2]
    · by_cases h3 : x.Kind = 3
      · simp [h3]
      · by_cases h4 : x.Kind = 4
        · simp [h4]
        · by_cases h7 : x.Kind = 7
          · simp [h7]
          · by_cases h8 : x.Kind = 8
            · simp [h8]
            · simp [h1, h2, h3, h4, h7, h8]
theorem need_app {α β : Type} {a b : List α} {y : Option β} (h : a.length + b.length < 1073741824) : need (a.length + b.length ≤ 4294967296) y = y := need_pos (by omega) y
section
variable {rec : List S_api_Instr → List S_api_TStmt → Int → Option (List S_api_Instr)}
theorem stmt6 {n : Nat} {out k : List S_api_Instr} {x : S_api_TStmt} {d : Int} (h6 : x.Kind = 6)
    (hb : rec (out ++ [S_api_Instr.mk 30 0 []] ++ [S_api_Instr.mk 39 x.N []] ++ [S_api_Instr.mk 40 0 []]) x.Body d = some (out ++ [S_api_Instr.mk 30 0 []] ++ [S_api_Instr.mk 39 x.N []] ++ [S_api_Instr.mk 40 0 []] ++ k))
    (hl : out.length + k.length + 8 < 1073741824) :
    ref28_stmt_v8 n rec out x d = some (out ++ ([S_api_Instr.mk 30 0 [], S_api_Instr.mk 39 x.N [], S_api_Instr.mk 40 (out.length + 5 + k.length : Nat) []] ++ k ++ [S_api_Instr.mk 41 d [], S_api_Instr.mk 37 (out.length + 2 : Nat) []])) := by
  unfold ref28_stmt_v8
  rw [need_app (by simp; omega)]
  simp only [h6, decide_true, cond_true]
  rw [need_app (by simp; omega), need_app (by simp; omega), hb]
  simp only [obind, Option.bind_some]
  rw [need_app (by simp; omega)]
  generalize hA : out ++ [S_api_Instr.mk 30 0 []] ++ [S_api_Instr.mk 39 x.N []] = A
  have hAl : A.length = out.length + 2 := by rw [← hA]; simp
  rw [show A ++ [S_api_Instr.mk 40 0 []] ++ k ++ [S_api_Instr.mk 41 d [], S_api_Instr.mk 37 (A.length : Int) []] = A ++ S_api_Instr.mk 40 0 [] :: (k ++ [S_api_Instr.mk 41 d [], S_api_Instr.mk 37 (A.length : Int) []]) by simp]
  rw [idx_get (get_mid _ _ _)]
  simp only [Int.toNat_natCast]
  rw [set_mid]
  simp [← hA]; omega
theorem stmt5 {n : Nat} {out q k j : List S_api_Instr} {x : S_api_TStmt} {d : Int} (h5 : x.Kind = 5)
    (hx : ref28_expr_v4 n (out ++ [S_api_Instr.mk 30 0 []]) x.X = some (out ++ [S_api_Instr.mk 30 0 []] ++ q))
    (hb : rec (out ++ [S_api_Instr.mk 30 0 []] ++ q ++ [S_api_Instr.mk 38 0 []]) x.Body d = some (out ++ [S_api_Instr.mk 30 0 []] ++ q ++ [S_api_Instr.mk 38 0 []] ++ k))
    (he : rec (out ++ [S_api_Instr.mk 30 0 []] ++ q ++ [S_api_Instr.mk 38 (out.length + 4 + q.length + k.length : Nat) []] ++ k ++ [S_api_Instr.mk 41 d [], S_api_Instr.mk 37 0 []]) x.Else d = some (out ++ [S_api_Instr.mk 30 0 []] ++ q ++ [S_api_Instr.mk 38 (out.length + 4 + q.length + k.length : Nat) []] ++ k ++ [S_api_Instr.mk 41 d [], S_api_Instr.mk 37 0 []] ++ j))
    (hl : out.length + q.length + k.length + j.length + 8 < 1073741824) :
    ref28_stmt_v8 n rec out x d = some (out ++ ([S_api_Instr.mk 30 0 []] ++ q ++ [S_api_Instr.mk 38 (out.length + 4 + q.length + k.length : Nat) []] ++ k ++ [S_api_Instr.mk 41 d [], S_api_Instr.mk 37 (out.length + 5 + q.length + k.length + j.length : Nat) []] ++ j ++ [S_api_Instr.mk 41 d []])) := by
  unfold ref28_stmt_v8
  rw [need_app (by simp; omega)]
  simp only [h5, hx, obind, Option.bind_some, decide_true, cond_true, show decide ((5 : Int) = 6) = false by decide, cond_false, ne_eq, not_true_eq_false, decide_false]
  rw [need_app (by simp; omega), hb]
  simp only [Option.bind_some]
  rw [need_app (by simp; omega), need_app (by simp; omega)]
  generalize hA : out ++ [S_api_Instr.mk 30 0 []] ++ q = A at *
  have hAl : A.length = out.length + 1 + q.length := by rw [← hA]; simp; omega
  rw [show A ++ [S_api_Instr.mk 38 0 []] ++ k ++ [S_api_Instr.mk 41 d []] ++ [S_api_Instr.mk 37 0 []] = A ++ S_api_Instr.mk 38 0 [] :: (k ++ [S_api_Instr.mk 41 d [], S_api_Instr.mk 37 0 []]) by simp]
  rw [idx_get (get_mid _ _ _)]
  simp only [Int.toNat_natCast]
  rw [set_mid]
  rw [show A ++ S_api_Instr.mk 38 (((A ++ S_api_Instr.mk 38 0 [] :: (k ++ [S_api_Instr.mk 41 d [], S_api_Instr.mk 37 0 []])).length : Nat) : Int) [] :: (k ++ [S_api_Instr.mk 41 d [], S_api_Instr.mk 37 0 []]) = A ++ [S_api_Instr.mk 38 (out.length + 4 + q.length + k.length : Nat) []] ++ k ++ [S_api_Instr.mk 41 d [], S_api_Instr.mk 37 0 []] by simp [hAl]; omega]
  rw [he]
  simp only [Option.bind_some]
  rw [need_app (by simp; omega)]
  rw [show A ++ [S_api_Instr.mk 38 (out.length + 4 + q.length + k.length : Nat) []] ++ k ++ [S_api_Instr.mk 41 d [], S_api_Instr.mk 37 0 []] ++ j ++ [S_api_Instr.mk 41 d []] = (A ++ [S_api_Instr.mk 38 (out.length + 4 + q.length + k.length : Nat) []] ++ k ++ [S_api_Instr.mk 41 d []]) ++ S_api_Instr.mk 37 0 [] :: (j ++ [S_api_Instr.mk 41 d []]) by simp]
  rw [show (A ++ [S_api_Instr.mk 38 0 []] ++ k ++ [S_api_Instr.mk 41 d []]).length = (A ++ [S_api_Instr.mk 38 (out.length + 4 + q.length + k.length : Nat) []] ++ k ++ [S_api_Instr.mk 41 d []]).length by simp]
  rw [idx_get (get_mid _ _ _)]
  simp only [Int.toNat_natCast]
  rw [set_mid]
  simp [← hA]; omega
theorem stmto {n : Nat} {out q : List S_api_Instr} {x : S_api_TStmt} {d : Int} (h5 : x.Kind ≠ 5) (h6 : x.Kind ≠ 6)
    (hx : ref28_expr_v4 n (out ++ [S_api_Instr.mk 30 0 []]) x.X = some (out ++ [S_api_Instr.mk 30 0 []] ++ q)) (hl : out.length + q.length + 8 < 1073741824) :
    ref28_stmt_v8 n rec out x d = some (out ++ ([S_api_Instr.mk 30 0 []] ++ q ++ [lastI x])) := by
  unfold ref28_stmt_v8
  rw [need_app (by simp; omega)]
  simp only [h5, h6, hx, last_ok, obind, Option.bind_some, decide_true, decide_false, cond_true, cond_false, ne_eq, not_false_eq_true]
  rw [need_app (by simp; omega)]
  simp
end
theorem rcode : ∀ (n : Nat) (l : List S_api_TStmt) (out : List S_api_Instr) (d : Int), nodesB l + 1 < n → out.length + 7 * nodesB l + 100 < 1073741824 → 0 ≤ d → d + nodesB l < 1073741824 →
    ref28_block_v1 n out l d = some (out ++ cB l out.length d)
  | 0, l, out, d, h, _, _, _ => by omega
  | n + 1, l, out, d, h, hl, hd, hdl => by
    have hlen := nodesB_len l
    show ref28_block_v1_body n (ref28_block_v1 n) out l d = _
    unfold ref28_block_v1_body
    have := iter_at (l := l) (step := ref28_block_v1_L1 n l (ref28_block_v1 n)) (fun i => (out ++ cB (l.take i) out.length d, dK (l.take i) d, (i : Int))) (.go (out ++ cB l out.length d)) (fun i x hx => by
      have hlt := (List.getElem?_eq_some_iff.1 hx).1
      have hnx := nodesB_takeS _ _ _ hx
      have hcl := cB_len (l.take i) out.length d
      have hcs := cS_len x (out.length + (cB (l.take i) out.length d).length) (dK (l.take i) d)
      have hdk := dK_le (l.take i) d
      have hnl := nodesB_len (l.take i)
      have hne := nodesS_eq x
      have hcx := cE_len x.X
      have hxn := nodes_eq x.X
      rw [dK_take _ _ _ _ hx, cB_take _ _ _ _ _ hx]
      generalize hD : dK (l.take i) d = D at *
      generalize hO : out ++ cB (l.take i) out.length d = O at *
      have hOl : O.length = out.length + (cB (l.take i) out.length d).length := by rw [← hO]; simp
      rw [← List.append_assoc, hO, ← hOl]
      rw [← hOl] at hcs
      have hst : ref28_stmt_v8 n (ref28_block_v1 n) O x D = some (O ++ cS x O.length D) := by
        by_cases h6 : x.Kind = 6
        · have hb := rcode n x.Body (O ++ [S_api_Instr.mk 30 0 []] ++ [S_api_Instr.mk 39 x.N []] ++ [S_api_Instr.mk 40 0 []]) D (by omega) (by simp; omega) (by omega) (by omega)
          rw [show (O ++ [S_api_Instr.mk 30 0 []] ++ [S_api_Instr.mk 39 x.N []] ++ [S_api_Instr.mk 40 0 []]).length = O.length + 3 by simp] at hb
          have hbl := cB_len x.Body (O.length + 3) D
          rw [stmt6 h6 hb (by omega), cS6 _ _ _ h6]
        · by_cases h5 : x.Kind = 5
          · have hX := rexpr n x.X (O ++ [S_api_Instr.mk 30 0 []]) (by omega) (by simp; omega)
            have hb := rcode n x.Body (O ++ [S_api_Instr.mk 30 0 []] ++ cE x.X ++ [S_api_Instr.mk 38 0 []]) D (by omega) (by simp; omega) (by omega) (by omega)
            rw [show (O ++ [S_api_Instr.mk 30 0 []] ++ cE x.X ++ [S_api_Instr.mk 38 0 []]).length = O.length + 2 + (cE x.X).length by simp; omega] at hb
            have hbl := cB_len x.Body (O.length + 2 + (cE x.X).length) D
            generalize hk : cB x.Body (O.length + 2 + (cE x.X).length) D = k at *
            have he := rcode n x.Else (O ++ [S_api_Instr.mk 30 0 []] ++ cE x.X ++ [S_api_Instr.mk 38 (O.length + 4 + (cE x.X).length + k.length : Nat) []] ++ k ++ [S_api_Instr.mk 41 D [], S_api_Instr.mk 37 0 []]) D (by omega) (by simp; omega) (by omega) (by omega)
            rw [show (O ++ [S_api_Instr.mk 30 0 []] ++ cE x.X ++ [S_api_Instr.mk 38 (O.length + 4 + (cE x.X).length + k.length : Nat) []] ++ k ++ [S_api_Instr.mk 41 D [], S_api_Instr.mk 37 0 []]).length = O.length + 4 + (cE x.X).length + k.length by simp; omega] at he
            have hel := cB_len x.Else (O.length + 4 + (cE x.X).length + k.length) D
            rw [stmt5 h5 hX hb he (by omega), cS5 x O.length D h5 rfl hk.symm rfl]
          · have hX := rexpr n x.X (O ++ [S_api_Instr.mk 30 0 []]) (by omega) (by simp; omega)
            rw [stmto h5 h6 hX (by omega), cSo x _ _ h5 h6]
      unfold ref28_block_v1_L1
      simp only [show decide ((i : Int) < (l.length : Int)) = true by simp; omega, cond_true]
      rw [idx_get hx, hst]
      simp only [obind, Option.bind_some]
      rw [i64_succ (N := l.length) (by omega) (by omega), w64 (by omega) (by omega)]
      by_cases h1 : x.Kind = 1
      · simp [h1]
      · simp [h1]) (by
      unfold ref28_block_v1_L1; simp) n 0 (by omega) (by omega)
    simp only [List.take_zero, cB, dK, List.append_nil] at this
    have this' : iter (ref28_block_v1_L1 n l (ref28_block_v1 n)) n (out, d, 0) = some (.go (out ++ cB l out.length d)) := this
    rw [this']; rfl
end Go.Proofs.Ytgjdaamkfpbgpaa
namespace Go.Proofs.Ytgjdaamkfpbgpaa
open Go.Abs
set_option linter.unusedVariables false
set_option linter.unusedSimpArgs false

theorem sizeE : ∀ (n : Nat) (x : S_api_TExpr) (m : Int), x.nodes < n → x.nodes < 1073741824 → ∃ r, ref20_SizeExpr n x m = some r
  | 0, x, m, h, _ => by omega
  | n + 1, x, m, h, hb => by
    have hn := nodes_eq x
    have hlen := nodesL_len x.Args
    show ∃ r, ref20_SizeExpr_body n (ref20_SizeExpr n) x m = some r
    unfold ref20_SizeExpr_body
    obtain ⟨r, h1, q, rfl⟩ := iter_inv (step := ref20_SizeExpr_L1 x m (ref20_SizeExpr n)) (fun s => ∃ k : Nat, s.2 = k ∧ k ≤ x.Args.length) (fun s => x.Args.length - s.2.toNat) (fun r => ∃ q, r = .go q) (fun ⟨a, b⟩ ⟨k, hk, hle⟩ => by
      simp only at hk; subst hk
      unfold ref20_SizeExpr_L1
      by_cases hc : k < x.Args.length ∧ a ≤ m
      · simp only [show (decide ((k : Int) < (x.Args.length : Int)) && decide (a ≤ m)) = true by simp; omega, cond_true]
        have hx := List.getElem?_eq_getElem hc.1
        have := nodesL_get _ _ _ hx
        obtain ⟨r, hr⟩ := sizeE n x.Args[k] m (by omega) (by omega)
        rw [idx_get hx, hr, i64_succ (N := x.Args.length) (by omega) (by omega)]
        exact .inl ⟨_, rfl, ⟨k + 1, rfl, by omega⟩, by simp; omega⟩
      · simp only [show (decide ((k : Int) < (x.Args.length : Int)) && decide (a ≤ m)) = false by simp; omega, cond_false]
        exact .inr ⟨_, rfl, _, rfl⟩) n (1, 0) ⟨0, rfl, by omega⟩ (by simp; omega)
    rw [h1]; exact ⟨_, rfl⟩
theorem sizeB : ∀ (n : Nat) (l : List S_api_TStmt) (m : Int), nodesB l + 1 < n → nodesB l < 1073741824 → ∃ r, ref20_Size n l m = some r
  | 0, l, m, h, _ => by omega
  | n + 1, l, m, h, hb => by
    have hlen := nodesB_len l
    show ∃ r, ref20_Size_body n (ref20_Size n) l m = some r
    unfold ref20_Size_body
    obtain ⟨r, h1, q, rfl⟩ := iter_inv (step := ref20_Size_L1 n l m (ref20_Size n)) (fun s => ∃ k : Nat, s.2 = k ∧ k ≤ l.length) (fun s => l.length - s.2.toNat) (fun r => ∃ q, r = .go q) (fun ⟨a, b⟩ ⟨k, hk, hle⟩ => by
      simp only at hk; subst hk
      unfold ref20_Size_L1
      by_cases hc : k < l.length ∧ a ≤ m
      · simp only [show (decide ((k : Int) < (l.length : Int)) && decide (a ≤ m)) = true by simp; omega, cond_true]
        have hx := List.getElem?_eq_getElem hc.1
        have := nodesB_get _ _ _ hx
        have h2 := nodesS_eq l[k]
        have h3 := nodes_eq l[k].X
        obtain ⟨r1, hr1⟩ := sizeE n l[k].X m (by omega) (by omega)
        obtain ⟨r2, hr2⟩ := sizeB n l[k].Body m (by omega) (by omega)
        obtain ⟨r3, hr3⟩ := sizeB n l[k].Else m (by omega) (by omega)
        rw [idx_get hx, hr1]
        simp only [obind, Option.bind_some, hr2, hr3]
        rw [i64_succ (N := l.length) (by omega) (by omega)]
        exact .inl ⟨_, rfl, ⟨k + 1, rfl, by omega⟩, by simp; omega⟩
      · simp only [show (decide ((k : Int) < (l.length : Int)) && decide (a ≤ m)) = false by simp; omega, cond_false]
        exact .inr ⟨_, rfl, _, rfl⟩) n (0, 0) ⟨0, rfl, by omega⟩ (by simp; omega)
    rw [h1]; exact ⟨_, rfl⟩
theorem cond_ex {α : Type} {b : Bool} {x y : Option α} (h1 : b = true → ∃ r, x = some r) (h2 : b = false → ∃ r, y = some r) : ∃ r, cond b x y = some r := by cases b <;> simp_all
theorem leaf_ex (x : S_api_TExpr) (vars : List Int) : ∃ r, ref20_leaf x vars = some r := by
  unfold ref20_leaf
  refine cond_ex (fun _ => ⟨_, rfl⟩) fun _ => cond_ex (fun _ => ⟨_, rfl⟩) fun _ => cond_ex (fun _ => ⟨_, rfl⟩) fun _ => cond_ex (fun _ => ⟨_, rfl⟩) fun _ => cond_ex (fun h => ?_) (fun _ => ⟨_, rfl⟩)
  simp at h
  rw [idx_int h.1.2 (by omega)]
  exact ⟨_, rfl⟩
theorem result_ex (n : Nat) (op : Int) (l : List Int) (hn : l.length < n) (hl : l.length < 1073741824) : ∃ r, ref20_result n op l = some r := by
  unfold ref20_result
  have hq : ∃ r, iter (ref20_result_L1 l) n 1 = some r := by
    obtain ⟨r, h1, _⟩ := iter_inv (step := ref20_result_L1 l) (fun s => ∃ k : Nat, s = k ∧ 1 ≤ k) (fun s => l.length - s.toNat) (fun _ => True) (fun s ⟨k, hk, h1⟩ => by
      subst hk
      unfold ref20_result_L1
      by_cases hc : k < l.length
      · simp only [show decide ((k : Int) < (l.length : Int)) = true by simp; omega, cond_true]
        rw [idx_get' hc, idx_int (w := 0) (by omega) (by simp; omega)]
        rw [i64_succ (N := l.length) (by omega) (by omega)]
        cases decide (l[k] ≠ l[(0 : Int).toNat])
        · exact .inl ⟨_, rfl, ⟨k + 1, rfl, by omega⟩, by simp; omega⟩
        · exact .inr ⟨_, rfl, trivial⟩
      · simp only [show decide ((k : Int) < (l.length : Int)) = false by simp; omega, cond_false]
        exact .inr ⟨_, rfl, trivial⟩) n 1 ⟨1, rfl, by omega⟩ (by simp; omega)
    exact ⟨r, h1⟩
  obtain ⟨r, hr⟩ := hq
  rw [hr]
  cases r with
  | stop r => exact ⟨_, rfl⟩
  | go u =>
    simp only [bindJ_go]
    refine cond_ex (fun _ => ⟨_, rfl⟩) fun h => ?_
    rw [idx_int (w := 0) (by omega) (by simp at h; simp; exact List.length_pos_iff.2 h)]
    exact cond_ex (fun _ => cond_ex (fun _ => ⟨_, rfl⟩) fun _ => ⟨_, rfl⟩) fun _ => cond_ex (fun _ => cond_ex (fun _ => ⟨_, rfl⟩) fun _ => ⟨_, rfl⟩) fun _ => cond_ex (fun _ => cond_ex (fun _ => ⟨_, rfl⟩) fun _ => ⟨_, rfl⟩) fun _ => cond_ex (fun _ => cond_ex (fun _ => ⟨_, rfl⟩) fun _ => ⟨_, rfl⟩) fun _ => cond_ex (fun _ => ⟨_, rfl⟩) fun _ => ⟨_, rfl⟩
theorem rightE : ∀ (n : Nat) (x : S_api_TExpr) (vars : List Int) (deep : Int), x.nodes < n → x.nodes < 1073741824 → ∃ b, ref20_RightExpr n x vars deep = some b
  | 0, x, vars, deep, h, _ => by omega
  | n + 1, x, vars, deep, h, hb => by
    have hn := nodes_eq x
    have hlen := nodesL_len x.Args
    show ∃ r, ref20_RightExpr_body n (ref20_RightExpr n) x vars deep = some r
    unfold ref20_RightExpr_body
    refine cond_ex (fun _ => ⟨_, rfl⟩) fun _ => cond_ex (fun _ => ⟨_, rfl⟩) fun _ => cond_ex (fun _ => ?_) fun _ => cond_ex (fun _ => ⟨_, rfl⟩) fun _ => ?_
    · obtain ⟨r, hr⟩ := leaf_ex x vars
      rw [hr]; exact ⟨_, rfl⟩
    · obtain ⟨r, h1, h2⟩ := iter_inv (step := ref20_RightExpr_L1 x vars deep (ref20_RightExpr n)) (fun s => ∃ k : Nat, s.2 = k ∧ k ≤ x.Args.length ∧ s.1.length = k) (fun s => x.Args.length - s.2.toNat) (fun r => match r with | .go q => q.length = x.Args.length | .stop _ => True) (fun ⟨a, b⟩ ⟨k, hk, hle, hal⟩ => by
        simp only at hk hal; subst hk
        unfold ref20_RightExpr_L1
        by_cases hc : k < x.Args.length
        · simp only [show decide ((k : Int) < (x.Args.length : Int)) = true by simp; omega, cond_true]
          have hx := List.getElem?_eq_getElem hc
          have := nodesL_get _ _ _ hx
          obtain ⟨r, hr⟩ := rightE n x.Args[k] vars (IntKind.i64.wrap (deep + 1)) (by omega) (by omega)
          rw [idx_get hx, hr]
          simp only [obind, Option.bind_some]
          cases r
          · exact .inr ⟨_, rfl, trivial⟩
          · simp only [Bool.not_true, cond_false]
            rw [need_app (by simp; omega), i64_succ (N := x.Args.length) (by omega) (by omega)]
            exact .inl ⟨_, rfl, ⟨k + 1, rfl, by omega, by simp; omega⟩, by simp; omega⟩
        · simp only [show decide ((k : Int) < (x.Args.length : Int)) = false by simp; omega, cond_false]
          exact .inr ⟨_, rfl, by simp; omega⟩) n ([], 0) ⟨0, rfl, by omega, rfl⟩ (by simp; omega)
      rw [h1]
      cases r with
      | stop r => exact ⟨_, rfl⟩
      | go q =>
        simp only [bindJ_go] at h2 ⊢
        obtain ⟨r, hr⟩ := result_ex n x.Op q (by omega) (by omega)
        rw [hr]; exact ⟨_, rfl⟩

def Gd (p : Prop) (o : Option (Lp (List Int) (Lp (List Int × Int) (Lp Unit Bool)))) : Prop := o = some (.stop (.stop (.stop false))) ∨ (p ∧ ∃ v, o = some (.go v))
theorem gd_stop {p : Prop} : Gd p (some (.stop (.stop (.stop false)))) := .inl rfl
theorem gd_go {p : Prop} {v : List Int} (h : p) : Gd p (some (.go v)) := .inr ⟨h, v, rfl⟩
theorem gd_cond {p : Prop} {b : Bool} {x y} (h1 : b = true → Gd p x) (h2 : b = false → Gd p y) : Gd p (cond b x y) := by cases b <;> simp_all
theorem gd_need {p q : Prop} [Decidable q] {y} (h : q) (h2 : Gd p y) : Gd p (need q y) := by rw [need_pos h]; exact h2
theorem gd_bindB {p : Prop} {o : Option (Lp Bool _)} {b : Bool} {k} (h : o = some (.go b)) (h2 : Gd p (k b)) : Gd p (bindJ o k) := by rw [h]; exact h2
theorem okB_take : ∀ (l : List S_api_TStmt) (i : Nat) (x : S_api_TStmt), l[i]? = some x → okB (l.take i) → okS x → okB (l.take (i + 1))
  | y :: r, 0, x, h, _, ho => by simp at h; subst h; simp [okB, ho]
  | y :: r, i + 1, x, h, hi, ho => by simp only [List.take_succ_cons, okB] at hi ⊢; exact ⟨hi.1, okB_take r i x (by simpa using h) hi.2 ho⟩
theorem rightB : ∀ (n : Nat) (l : List S_api_TStmt) (vars : List Int) (deep : Int), nodesB l + 1 < n → nodesB l < 1073741824 → ∃ b, ref20_RightBlock n l vars deep = some b ∧ (b = true → okB l)
  | 0, l, vars, deep, h, _ => by omega
  | n + 1, l, vars, deep, h, hb => by
    have hlen := nodesB_len l
    show ∃ b, ref20_RightBlock_body n (ref20_RightBlock n) l vars deep = some b ∧ (b = true → okB l)
    unfold ref20_RightBlock_body
    obtain ⟨r, h1, h2⟩ := iter_inv (step := ref20_RightBlock_L1 n l deep (ref20_RightBlock n)) (fun s => ∃ k : Nat, s.2 = k ∧ k ≤ l.length ∧ okB (l.take k)) (fun s => l.length - s.2.toNat) (fun r => match r with | .go _ => okB l | .stop b => b = false) (fun ⟨a, b⟩ ⟨k, hk, hle, hok⟩ => by
      simp only at hk; subst hk
      unfold ref20_RightBlock_L1
      by_cases hc : k < l.length
      · simp only [show decide ((k : Int) < (l.length : Int)) = true by simp; omega, cond_true]
        have hx := List.getElem?_eq_getElem hc
        have := nodesB_get _ _ _ hx
        have h2 := nodesS_eq l[k]
        have h3 := nodes_eq l[k].X
        rw [idx_get hx, i64_succ (N := l.length) (by omega) (by omega)]
        generalize l[k] = x at *
        have key : ∀ o, Gd (okS x) o → (∃ s', bindJ o (fun vars_13 => some (.go (vars_13, ((k + 1 : Nat) : Int)))) = some (.go s') ∧ (∃ k' : Nat, s'.2 = k' ∧ k' ≤ l.length ∧ okB (l.take k')) ∧ l.length - s'.2.toNat < l.length - ((k : Int)).toNat) ∨ (∃ r, bindJ o (fun vars_13 => some (.go (vars_13, ((k + 1 : Nat) : Int)))) = some (.stop r) ∧ (match r with | .go _ => okB l | .stop b => b = false)) := by
          intro o ho
          rcases ho with rfl | ⟨ho, v, rfl⟩
          · exact .inr ⟨_, rfl, rfl⟩
          · exact .inl ⟨_, rfl, ⟨k + 1, rfl, by omega, okB_take _ _ _ hx hok ho⟩, by simp; omega⟩
        refine key _ ?_
        refine gd_cond (fun _ => gd_stop) fun hkd => gd_cond (fun _ => gd_stop) fun _ => gd_cond (fun _ => gd_stop) fun _ => ?_
        have hX : ∃ o : Lp Unit (Lp (List Int) (Lp (List Int × Int) (Lp Unit Bool))), (cond (decide (x.Kind = 6)) (obind (ref20_zero x.X) fun r74 => cond (((!r74) || decide (x.N < 0)) || decide (1000 < x.N)) (some (.stop (.stop (.stop (.stop false))))) (some (.go ()))) (obind (ref20_RightExpr n x.X a (IntKind.i64.wrap (deep + 1))) fun r83 => cond (!r83) (some (.stop (.stop (.stop (.stop false))))) (some (.go ())))) = some o ∧ (o = .stop (.stop (.stop (.stop false))) ∨ o = .go ()) := by
          cases decide (x.Kind = 6)
          · obtain ⟨r, hr⟩ := rightE n x.X a (IntKind.i64.wrap (deep + 1)) (by omega) (by omega)
            simp only [hr, obind, Option.bind_some, cond_false]
            cases r
            · exact ⟨_, rfl, .inl rfl⟩
            · exact ⟨_, rfl, .inr rfl⟩
          · simp only [ref20_zero, obind, Option.bind_some, cond_true]
            generalize (((!_) || _) || _) = bb
            cases bb
            · exact ⟨_, rfl, .inr rfl⟩
            · exact ⟨_, rfl, .inl rfl⟩
        obtain ⟨o, ho, ho2⟩ := hX
        rw [ho]
        rcases ho2 with rfl | rfl
        · exact gd_stop
        · simp only [bindJ_go]
          obtain ⟨b1, hb1, hk1⟩ := rightB n x.Body a (IntKind.i64.wrap (deep + 1)) (by omega) (by omega)
          obtain ⟨b2, hb2, hk2⟩ := rightB n x.Else a (IntKind.i64.wrap (deep + 1)) (by omega) (by omega)
          simp only [hb1, hb2, obind, Option.bind_some]
          refine gd_cond (fun _ => gd_stop) fun hbb => ?_
          have hs : okS x := by
            simp at hbb hkd
            exact (okS_eq x).2 ⟨by omega, hk1 hbb.1, hk2 hbb.2⟩
          refine gd_cond (fun _ => gd_cond (fun _ => gd_stop) fun hv => ?_) fun _ => gd_cond (fun _ => ?_) fun _ => ?_
          · simp at hv
            exact gd_need (by simp; omega) (gd_need (by simp; omega) (gd_go hs))
          · by_cases hsl : x.Slot < 0 ∨ (a.length : Int) ≤ x.Slot
            · exact gd_bindB (b := true) (by rw [show (decide (x.Slot < 0) || decide ((a.length : Int) ≤ x.Slot)) = true by simpa using hsl]; rfl) gd_stop
            · refine gd_bindB (b := decide (a[x.Slot.toNat]'(by omega) ≠ x.X.Type_)) (by rw [show (decide (x.Slot < 0) || decide ((a.length : Int) ≤ x.Slot)) = false by simp; omega]; simp only [cond_false]; rw [idx_int (by omega) (by omega)]) (gd_cond (fun _ => gd_stop) fun _ => gd_go hs)
          · have hw : ∃ q, ref20_Wants x.Kind = some q := by unfold ref20_Wants; exact cond_ex (fun _ => ⟨_, rfl⟩) fun _ => cond_ex (fun _ => ⟨_, rfl⟩) fun _ => ⟨_, rfl⟩
            obtain ⟨q, hq⟩ := hw
            rw [hq]
            cases decide (x.Kind ≠ 6)
            · exact gd_bindB (b := false) rfl (gd_go hs)
            · exact gd_bindB (b := decide (x.X.Type_ ≠ q)) rfl (gd_cond (fun _ => gd_stop) fun _ => gd_go hs)
      · simp only [show decide ((k : Int) < (l.length : Int)) = false by simp; omega, cond_false]
        exact .inr ⟨_, rfl, by simpa [show k = l.length by omega] using hok⟩) n (vars, 0) ⟨0, rfl, by omega, trivial⟩ (by simp; omega)
    rw [h1]
    cases r with
    | stop b => exact ⟨b, rfl, fun h => by simp only at h2; simp [h2] at h⟩
    | go u => exact ⟨true, rfl, fun _ => h2⟩
theorem right_ex (n : Nat) (p : S_api_Program) (h : nodesB p.Code + 1 < n) (hb : nodesB p.Code < 1073741824) (he : p.Effects.length < n) (hel : p.Effects.length < 1073741824) : ∃ b, ref20_Right n p = some b ∧ (b = true → okB p.Code) := by
  unfold ref20_Right
  obtain ⟨r, h1, h2⟩ := iter_inv (step := ref20_Right_L1 p) (fun s => ∃ k : Nat, s = k ∧ k ≤ p.Effects.length) (fun s => p.Effects.length - s.toNat) (fun r => match r with | .go _ => True | .stop b => b = false) (fun s ⟨k, hk, hle⟩ => by
    subst hk
    unfold ref20_Right_L1
    by_cases hc : k < p.Effects.length
    · simp only [show decide ((k : Int) < (p.Effects.length : Int)) = true by simp; omega, cond_true]
      rw [idx_get' hc, i64_succ (N := p.Effects.length) (by omega) (by omega)]
      have hq : ∃ b : Bool, (cond (decide (p.Effects[k] < 1) || decide (6 < p.Effects[k])) (some (.go true)) (bindJ (S := Bool) (cond (decide (0 < (k : Int))) (idx p.Effects (k : Int) fun x28 => idx p.Effects (IntKind.i64.wrap ((k : Int) - 1)) fun x29 => some (.go (decide (x28 ≤ x29)))) (some (.go false))) (fun b22 => some (.go b22))) : Option (Lp Bool (Lp Int (Lp Unit Bool)))) = some (.go b) := by
        cases (decide (p.Effects[k] < 1) || decide (6 < p.Effects[k]))
        · by_cases h0 : 0 < k
          · rw [idx_get' hc, w64 (by omega) (by omega), idx_int (by omega) (by omega)]
            cases decide (0 < (k : Int)) <;> exact ⟨_, rfl⟩
          · rw [show decide (0 < (k : Int)) = false by simp; omega]; exact ⟨_, rfl⟩
        · exact ⟨_, rfl⟩
      obtain ⟨b, hb⟩ := hq
      rw [hb]
      cases b
      · exact .inl ⟨_, rfl, ⟨k + 1, rfl, by omega⟩, by simp; omega⟩
      · exact .inr ⟨_, rfl, rfl⟩
    · simp only [show decide ((k : Int) < (p.Effects.length : Int)) = false by simp; omega, cond_false]
      exact .inr ⟨_, rfl, trivial⟩) n 0 ⟨0, rfl, by omega⟩ (by simp; omega)
  rw [h1]
  cases r with
  | stop b => exact ⟨b, rfl, fun h => by simp only at h2; simp [h2] at h⟩
  | go u =>
    obtain ⟨b, hb1, hb2⟩ := rightB n p.Code [] 1 h hb
    exact ⟨b, by simp only [bindJ_go, hb1]; rfl, hb2⟩
end Go.Proofs.Ytgjdaamkfpbgpaa
namespace Go.Proofs.Ytgjdaamkfpbgpaa
open Go.Abs
set_option linter.unusedVariables false
set_option linter.unusedSimpArgs false

theorem sane (n : Nat) : law28_sanity (n + 200) = some true := by kernel_rfl
theorem w_succ {k N : Nat} (h : k ≤ N) (hN : N ≤ 1073741824) : IntKind.i64.wrap ((k : Int) + 1) = ((k + 1 : Nat) : Int) := by rw [w64 (by omega) (by omega)]; try omega
theorem ints_same (n : Nat) (a : List Int) (h : a.length < n) (hl : a.length ≤ 1073741824) : ref28_ints n a a = some true := by
  unfold ref28_ints
  simp only [ne_eq, not_true_eq_false, decide_false, cond_false]
  have h1 : iter (ref28_ints_L1 a a) n 0 = some (.go ()) := iter_allgo (step := ref28_ints_L1 a a) a.length (.go ()) (fun i hi => by
    unfold ref28_ints_L1
    simp only [show decide ((i : Int) < (a.length : Int)) = true by simp; omega, cond_true]
    rw [idx_get' hi, idx_get' hi, w_succ (N := a.length) (by omega) (by omega)]
    simp) (by unfold ref28_ints_L1; simp) n h
  rw [h1]; rfl
theorem same_v1 (n : Nat) (a : S_api_Module) (h1 : a.Effects.length < n) (h2 : a.Code.length < n) (h3 : a.Effects.length ≤ 1073741824) (h4 : a.Code.length ≤ 1073741824) : ref28_Same_v1 n a a = some true := by
  unfold ref28_Same_v1
  simp only [decide_true, Bool.not_true, cond_false, ints_same n _ h1 h3, obind, Option.bind_some, bindJ_go, ne_eq, not_true_eq_false, decide_false, Bool.or_self]
  have h5 : iter (ref28_Same_v1_L1 a a) n 0 = some (.go ()) := iter_allgo (step := ref28_Same_v1_L1 a a) a.Code.length (.go ()) (fun i hi => by
    unfold ref28_Same_v1_L1
    simp only [show decide ((i : Int) < (a.Code.length : Int)) = true by simp; omega, cond_true]
    rw [idx_get' hi, idx_get' hi, w_succ (N := a.Code.length) (by omega) (by omega)]
    simp) (by unfold ref28_Same_v1_L1; simp) n h2
  rw [h5]; rfl
end Go.Proofs.Ytgjdaamkfpbgpaa
namespace Go.Proofs.Ytgjdaamkfpbgpaa
open Go.Abs
set_option linter.unusedVariables false
set_option linter.unusedSimpArgs false
set_option maxRecDepth 20000
set_option maxHeartbeats 4000000

def law28_CompileMakesAsSpecified (n : Nat) (p_0 : S_api_Program) : Option (Bool) :=
 obind (ref20_Size n p_0.Code 200) fun r2 =>
 bindJ (S := Bool)
  (cond (decide (200 < r2) || decide (300 < (p_0.Name.length : Int)))
   (some (.go true))
   (obind (ref20_Right n p_0) fun r13 =>
   some (.go (!r13))))
 (fun b7 =>
  cond b7
   (obind (law28_sanity n) fun r16 =>
   some r16)
   (obind (compile_Compile n p_0) fun r18 =>
   obind (ref28_Compile n p_0) fun r25 =>
   obind (law28_sanity n) fun r32 =>
   bindJ (S := Bool)
    (cond (r32 && decide (r18.2 = r25.E))
     (obind (ref28_Same_v1 n r18.1 r25.M) fun r43 =>
     some (.go r43))
     (some (.go false)))
   (fun b37 =>
    some b37)))
theorem law28_CompileMakesAsSpecified_ok (n : Nat) (p_0 : S_api_Program) (p_0_Effectsv : Value) (p_0_Codev : Value) {r : Bool} (h : law28_CompileMakesAsSpecified n p_0 = some r) :
  Meets Try.prog 3 [.agg #[.string (bs p_0.Name), p_0_Effectsv, p_0_Codev]] [ro p_0_Effectsv 1 (p_0.Effects.map (eInt .i64)), nro p_0_Codev NC_api_TStmt_50 p_0.Code] (fun v G => v = .bool r ∧ G = []) := by
 refine fn_of_run Try.func3 rfl Try.ntmps3 rfl (fun w0 o0 => ?_)
 refine run_seq ?_
 refine run_region' ?_
 refine ot rfl rfl (t_box rfl) ?_
 rintro _ _ ⟨b1, rfl, rfl⟩
 refine oy rfl rfl (y_assign rfl) ?_
 refine ops_nil ?_
 refine goes_code ?_
 refine run_seq ?_
 refine run_seq ?_
 refine run_region' ?_
 refine oy rfl rfl (y_fieldAddr_box (sz := 0) Try.runUnderlying25 rfl Try.sizeOf23 rfl) ?_
 refine oy rfl rfl (y_load_box 2 Try.isAgg23 rfl rfl rfl) ?_
 obtain ⟨r2, hr3, h⟩ := obind_some h
 refine ot rfl rfl (t_callx (vs := [p_0_Codev, .int .i64 200]) (cs := []) [(1, 0)] rfl Try.call6 rfl (ref20_Size_ok n  p_0.Code 200 p_0_Codev hr3) (showsX_view 1 rfl views_nro showsX_nil) rfl (.inl rfl)) ?_
 rintro _ _ ⟨_, ⟨rfl, rfl⟩, rfl⟩
 refine oy rfl rfl (y_gtr rfl rfl) ?_
 refine oy rfl rfl (y_move rfl) ?_
 refine ops_cut 5 (Bool) (fun σ => [(1, boxP b1 0), (15, .bool σ)]) (fun σ => [ro p_0_Effectsv 1 (p_0.Effects.map (eInt .i64)), nro p_0_Codev NC_api_TStmt_50 p_0.Code, box b1 [.string (bs p_0.Name), p_0_Effectsv, p_0_Codev]]) (fun σ => σ = (decide (200 < r2) || decide (300 < (p_0.Name.length : Int)))) (fun L4 hL5 => ?_) ?_
 ·refine ops_split 10 (decide (200 < r2)) rfl (fun hg6 => ?_) (fun hg6 => ?_)
  ·skip
   refine ops_no 4 false 10 rfl rfl rfl rfl rfl ?_
   refine ops_no 4 false 10 rfl rfl rfl rfl rfl ?_
   refine ops_no 4 false 10 rfl rfl rfl rfl rfl ?_
   refine ops_no 4 false 10 rfl rfl rfl rfl rfl ?_
   refine oy rfl rfl (y_pick (b := true) rfl rfl) ?_
   refine ops_nil ?_
   exact goes_cut hL5 true [0, 1, 2] (qv2 rfl rfl) (by decide) rfl (by rw [hg6]; simp)
  ·skip
   refine ops_y (wg 4 false 10 rfl rfl rfl rfl) rfl (y_fieldAddr_box (sz := 0) Try.runUnderlying25 rfl Try.sizeOf9 rfl) ?_
   refine ops_y (wg 4 false 10 rfl rfl rfl rfl) rfl (y_load_box 2 Try.isAgg9 rfl rfl rfl) ?_
   refine ops_y (wg 4 false 10 rfl rfl rfl rfl) rfl (y_len_str rfl Try.runUnderlying9 rfl) ?_
   refine ops_y (wg 4 false 10 rfl rfl rfl rfl) rfl (y_gtr rfl rfl) ?_
   refine oy rfl rfl (y_pick (b := false) rfl rfl) ?_
   refine ops_nil ?_
   exact goes_cut hL5 (decide (300 < (p_0.Name.length : Int))) [0, 1, 2] (qv2 rfl rfl) (by decide) rfl (by rw [hg6]; simp)
 rintro _ rfl
 refine oy rfl rfl (y_move rfl) ?_
 obtain ⟨o8, h, ho9⟩ := bindJ_some h
 refine ops_cut 4 (Bool) (fun σ => [(1, boxP b1 0), (20, .bool σ)]) (fun σ => [ro p_0_Effectsv 1 (p_0.Effects.map (eInt .i64)), nro p_0_Codev NC_api_TStmt_50 p_0.Code, box b1 [.string (bs p_0.Name), p_0_Effectsv, p_0_Codev]]) (fun σ => o8 = .go σ) (fun L10 hL11 => ?_) ?_
 ·refine ops_split 16 (decide (200 < r2) || decide (300 < (p_0.Name.length : Int))) rfl (fun hg12 => ?_) (fun hg12 => ?_)
  ·replace h := cond_t h hg12
   refine ops_no 10 false 16 rfl rfl rfl rfl rfl ?_
   refine ops_no 10 false 16 rfl rfl rfl rfl rfl ?_
   refine ops_no 10 false 16 rfl rfl rfl rfl rfl ?_
   refine oy rfl rfl (y_pick (b := true) rfl rfl) ?_
   refine ops_nil ?_
   obtain rfl := some_eq h
   exact goes_cut hL11 true [0, 1, 2] (qv2 rfl rfl) (by decide) rfl rfl
  ·replace h := cond_f h hg12
   refine ops_y (wg 10 false 16 rfl rfl rfl rfl) rfl (y_load_boxagg (c := [.string (bs p_0.Name), p_0_Effectsv, p_0_Codev]) 2 Try.isAgg25 Try.sizeOf25 rfl rfl rfl) ?_
   obtain ⟨r13, hr14, h⟩ := obind_some h
   refine ops_t (wg 10 false 16 rfl rfl rfl rfl) rfl (t_callx (vs := [.agg #[.string (bs p_0.Name), p_0_Effectsv, p_0_Codev]]) (cs := []) [(0, 0), (1, 0)] rfl Try.call7 rfl (ref20_Right_ok n  p_0 p_0_Effectsv p_0_Codev hr14) (showsX_view 0 rfl views_ro (showsX_view 1 rfl views_nro showsX_nil)) rfl (.inl rfl)) ?_
   rintro _ _ ⟨_, ⟨rfl, rfl⟩, rfl⟩
   refine ops_y (wg 10 false 16 rfl rfl rfl rfl) rfl (y_not rfl) ?_
   refine oy rfl rfl (y_pick (b := false) rfl rfl) ?_
   refine ops_nil ?_
   obtain rfl := some_eq h
   exact goes_cut hL11 (!r13) [0, 1, 2] (qv2 rfl rfl) (by decide) rfl rfl
 rintro b7 hj
 obtain rfl : o8 = _ := hj
 replace h := after_go ho9
 clear ho9
 refine ops_nil ?_
 refine goes_code ?_
 refine run_cond b7 rfl (fun hc15 => ?_) (fun hc15 => ?_)
 ·replace h := cond_t h hc15
  refine run_seq ?_
  refine run_region' ?_
  obtain ⟨r16, hr17, h⟩ := obind_some h
  refine ot rfl rfl (t_callx (vs := []) (cs := []) [] rfl Try.call8 rfl (law28_sanity_ok n    hr17) showsX_nil rfl (.inl rfl)) ?_
  rintro _ _ ⟨_, ⟨rfl, rfl⟩, rfl⟩
  refine oy rfl rfl (y_assign rfl) ?_
  refine ops_nil ?_
  refine goes_code ?_
  refine run_ret ?_
  obtain rfl := some_eq h
  refine fin_slots [2] [.bool r16] [] [] Try.results3 rfl (by decide) rfl ?_
  exact ⟨rfl, rfl⟩
 ·replace h := cond_f h hc15
  refine run_skip ?_
  refine goes_code ?_
  refine run_seq ?_
  refine run_region' ?_
  refine oy rfl rfl (y_load_boxagg (c := [.string (bs p_0.Name), p_0_Effectsv, p_0_Codev]) 2 Try.isAgg25 Try.sizeOf25 rfl rfl rfl) ?_
  obtain ⟨r18, hr19, h⟩ := obind_some h
  refine ot rfl rfl (t_callx (vs := [.agg #[.string (bs p_0.Name), p_0_Effectsv, p_0_Codev]]) (cs := []) [(0, 0), (1, 0)] rfl Try.call9 rfl (compile_Compile_ok n  p_0 p_0_Effectsv p_0_Codev hr19) (showsX_view 0 rfl views_ro (showsX_view 1 rfl views_nro showsX_nil)) rfl (.inl rfl)) ?_
  rintro _ _ ⟨_, ⟨v20, v21, rfl, rfl⟩, rfl⟩
  refine oy rfl rfl (y_move rfl) ?_
  refine oy rfl rfl (y_extract rfl rfl) ?_
  refine oy rfl rfl (y_extract rfl rfl) ?_
  refine ot rfl rfl (t_alloc Try.zeroValue31) ?_
  rintro _ _ ⟨b22, rfl, rfl⟩
  refine ops_slc 3 rfl reads_row (fun hs23 hs23o => ?_)
  refine ops_slc 4 rfl reads_row (fun hs24 hs24o => ?_)
  refine ot rfl rfl (t_store 5 Try.sizeOf31 rfl rfl rfl rfl (by simp [Value.cells, boxP]) (allL_cons rfl (allL_cons hs23o (allL_cons hs24o (allL_nil))))) ?_
  rintro _ _ ⟨rfl, rfl⟩
  refine ops_turn (retell 5 (g := box b22 [.string (bs r18.1.Name), v20, v21]) rfl rfl) ?_
  refine oy rfl rfl (y_assign rfl) ?_
  refine ops_nil ?_
  refine goes_code ?_
  refine run_seq ?_
  refine run_weak [(1, boxP b1 0), (3, boxP b22 0), (4, .int .i64 r18.2)] [0, 1, 2, 3, 4, 5] [ro p_0_Effectsv 1 (p_0.Effects.map (eInt .i64)), nro p_0_Codev NC_api_TStmt_50 p_0.Code, box b1 [.string (bs p_0.Name), p_0_Effectsv, p_0_Codev], row v20 1 (r18.1.Effects.map (eInt .i64)), row v21 3 (r18.1.Code.map S_api_Instr.enc), box b22 [.string (bs r18.1.Name), v20, v21]] (qv3 rfl rfl rfl) (by decide) rfl ?_
  refine run_region' ?_
  refine oy rfl rfl (y_load_boxagg (c := [.string (bs p_0.Name), p_0_Effectsv, p_0_Codev]) 2 Try.isAgg25 Try.sizeOf25 rfl rfl rfl) ?_
  obtain ⟨r25, hr26, h⟩ := obind_some h
  refine ot rfl rfl (t_callx (vs := [.agg #[.string (bs p_0.Name), p_0_Effectsv, p_0_Codev]]) (cs := []) [(0, 0), (1, 0)] rfl Try.call10 rfl (ref28_Compile_ok n  p_0 p_0_Effectsv p_0_Codev hr26) (showsX_view 0 rfl views_ro (showsX_view 1 rfl views_nro showsX_nil)) rfl (.inl rfl)) ?_
  rintro _ _ ⟨_, ⟨v27, v28, rfl, rfl⟩, rfl⟩
  refine ot rfl rfl (t_alloc Try.zeroValue36) ?_
  rintro _ _ ⟨b29, rfl, rfl⟩
  refine ops_slc 6 rfl reads_row (fun hs30 hs30o => ?_)
  refine ops_slc 7 rfl reads_row (fun hs31 hs31o => ?_)
  refine ot rfl rfl (t_store 8 Try.sizeOf36 rfl rfl rfl rfl (by simp [Value.cells, boxP]) (allL_cons rfl (allL_cons hs30o (allL_cons hs31o (allL_cons rfl (allL_nil)))))) ?_
  rintro _ _ ⟨rfl, rfl⟩
  refine ops_turn (retell 8 (g := box b29 [.string (bs r25.M.Name), v27, v28, .int .i64 r25.E]) rfl rfl) ?_
  refine ops_nil ?_
  refine goes_code ?_
  refine run_seq ?_
  refine run_region' ?_
  obtain ⟨r32, hr33, h⟩ := obind_some h
  refine ot rfl rfl (t_callx (vs := []) (cs := []) [] rfl Try.call8 rfl (law28_sanity_ok n    hr33) showsX_nil rfl (.inl rfl)) ?_
  rintro _ _ ⟨_, ⟨rfl, rfl⟩, rfl⟩
  refine oy rfl rfl (y_move rfl) ?_
  refine ops_cut 5 (Bool) (fun σ => [(3, boxP b22 0), (5, boxP b29 0), (35, .bool σ)]) (fun σ => [row v20 1 (r18.1.Effects.map (eInt .i64)), row v21 3 (r18.1.Code.map S_api_Instr.enc), box b22 [.string (bs r18.1.Name), v20, v21], row v27 1 (r25.M.Effects.map (eInt .i64)), row v28 3 (r25.M.Code.map S_api_Instr.enc), box b29 [.string (bs r25.M.Name), v27, v28, .int .i64 r25.E]]) (fun σ => σ = (r32 && decide (r18.2 = r25.E))) (fun L34 hL35 => ?_) ?_
  ·refine ops_split 30 r32 rfl (fun hg36 => ?_) (fun hg36 => ?_)
   ·skip
    refine ops_y (wg 1 true 30 rfl rfl rfl rfl) rfl (y_move rfl) ?_
    refine ops_y (wg 1 true 30 rfl rfl rfl rfl) rfl (y_fieldAddr_box (sz := 0) Try.runUnderlying36 rfl Try.sizeOf32 rfl) ?_
    refine ops_y (wg 1 true 30 rfl rfl rfl rfl) rfl (y_load_box 8 Try.isAgg32 rfl rfl rfl) ?_
    refine ops_y (wg 1 true 30 rfl rfl rfl rfl) rfl (y_eql rfl rfl) ?_
    refine oy rfl rfl (y_pick (b := true) rfl rfl) ?_
    refine ops_nil ?_
    exact goes_cut hL35 (decide (r18.2 = r25.E)) [3, 4, 5, 6, 7, 8] (qv3 rfl rfl rfl) (by decide) rfl (by rw [hg36]; simp)
   ·skip
    refine ops_no 1 true 30 rfl rfl rfl rfl rfl ?_
    refine ops_no 1 true 30 rfl rfl rfl rfl rfl ?_
    refine ops_no 1 true 30 rfl rfl rfl rfl rfl ?_
    refine ops_no 1 true 30 rfl rfl rfl rfl rfl ?_
    refine oy rfl rfl (y_pick (b := false) rfl rfl) ?_
    refine ops_nil ?_
    exact goes_cut hL35 false [3, 4, 5, 6, 7, 8] (qv3 rfl rfl rfl) (by decide) rfl (by rw [hg36]; simp)
  rintro _ rfl
  refine oy rfl rfl (y_move rfl) ?_
  obtain ⟨o38, h, ho39⟩ := bindJ_some h
  refine ops_cut 5 (Bool) (fun σ => [(41, .bool σ)]) (fun σ => []) (fun σ => o38 = .go σ) (fun L40 hL41 => ?_) ?_
  ·refine ops_split 36 (r32 && decide (r18.2 = r25.E)) rfl (fun hg42 => ?_) (fun hg42 => ?_)
   ·replace h := cond_t h hg42
    refine ops_y (wg 7 true 36 rfl rfl rfl rfl) rfl (y_load_boxagg (c := [.string (bs r18.1.Name), v20, v21]) 2 Try.isAgg31 Try.sizeOf31 rfl rfl rfl) ?_
    refine ops_y (wg 7 true 36 rfl rfl rfl rfl) rfl (y_fieldAddr_box (sz := 2) Try.runUnderlying36 rfl Try.sizeOf31 rfl) ?_
    refine ops_y (wg 7 true 36 rfl rfl rfl rfl) rfl (y_load_boxagg (c := [.string (bs r25.M.Name), v27, v28]) 5 Try.isAgg31 Try.sizeOf31 rfl rfl rfl) ?_
    obtain ⟨r43, hr44, h⟩ := obind_some h
    refine ops_t (wg 7 true 36 rfl rfl rfl rfl) rfl (t_callx (vs := [.agg #[.string (bs r18.1.Name), v20, v21], .agg #[.string (bs r25.M.Name), v27, v28]]) (cs := []) [(0, 1), (1, 1), (3, 1), (4, 1)] rfl Try.call11 rfl (ref28_Same_v1_ok n  r18.1 r25.M v20 v21 v27 v28 hr44) (showsX_look 0 rfl views_row (showsX_look 1 rfl views_row (showsX_look 3 rfl views_row (showsX_look 4 rfl views_row showsX_nil)))) rfl (.inr (by rintro _ _ ⟨rfl, rfl⟩ g hg; first | (cases hg; done) | (simp only [List.mem_cons, List.not_mem_nil, or_false] at hg; first | (subst hg; first | exact strict_row | exact strict_box) | (rcases hg with rfl | rfl <;> first | exact strict_row | exact strict_box) | (rcases hg with rfl | rfl | rfl <;> first | exact strict_row | exact strict_box))))) ?_
    rintro _ _ ⟨_, ⟨rfl, rfl⟩, rfl⟩
    refine oy rfl rfl (y_pick (b := true) rfl rfl) ?_
    refine ops_nil ?_
    obtain rfl := some_eq h
    exact goes_cut hL41 r43 [] (qv1 rfl) (by decide) rfl rfl
   ·replace h := cond_f h hg42
    refine ops_no 7 true 36 rfl rfl rfl rfl rfl ?_
    refine ops_no 7 true 36 rfl rfl rfl rfl rfl ?_
    refine ops_no 7 true 36 rfl rfl rfl rfl rfl ?_
    refine ops_no 7 true 36 rfl rfl rfl rfl rfl ?_
    refine oy rfl rfl (y_pick (b := false) rfl rfl) ?_
    refine ops_nil ?_
    obtain rfl := some_eq h
    exact goes_cut hL41 false [] (qv1 rfl) (by decide) rfl rfl
  rintro b37 hj
  obtain rfl : o38 = _ := hj
  replace h := after_go ho39
  clear ho39
  refine oy rfl rfl (y_assign rfl) ?_
  refine ops_nil ?_
  refine goes_code ?_
  refine run_ret ?_
  obtain rfl := some_eq h
  refine fin_slots [2] [.bool b37] [] [] Try.results3 rfl (by decide) rfl ?_
  exact ⟨rfl, rfl⟩

end Go.Proofs.Ytgjdaamkfpbgpaa
namespace Go.Proofs.Ytgjdaamkfpbgpaa
open Go.Abs
set_option linter.unusedVariables false
set_option linter.unusedSimpArgs false

theorem law3 (p : S_api_Program) (h : nodesB p.Code ≤ 1048576) (he : p.Effects.length ≤ 1048576) : ∃ n, law28_CompileMakesAsSpecified n p = some true := by
  refine ⟨8 * nodesB p.Code + p.Effects.length + 200, ?_⟩
  generalize hN : 8 * nodesB p.Code + p.Effects.length + 200 = N
  obtain ⟨r, hr⟩ := sizeB N p.Code 200 (by omega) (by omega)
  have hs : law28_sanity N = some true := by subst hN; exact sane _
  unfold law28_CompileMakesAsSpecified
  rw [hr]
  simp only [obind, Option.bind_some, hs]
  cases (decide (200 < r) || decide (300 < (p.Name.length : Int)))
  · obtain ⟨b, hb, hok⟩ := right_ex N p (by omega) (by omega) (by omega) (by omega)
    simp only [cond_false, hb, Option.bind_some, bindJ_go]
    cases b
    · rfl
    · have hc := ccode N p.Code [] 0 (hok rfl) (by omega) (by simp; omega) (by omega) (by omega)
      have hq := rcode N p.Code [] 0 (by omega) (by simp; omega) (by omega) (by omega)
      have hl := cB_len p.Code 0 0
      simp only [Bool.not_true, cond_false, compile_Compile, ref28_Compile, obind, hc, hq, Option.bind_some, List.length_nil, List.nil_append]
      simp only [need_pos (show 0 + p.Effects.length ≤ 4294967296 by omega)]
      cases decide (65536 < ((cB p.Code 0 0).length : Int))
      · simp only [cond_false, Option.bind_some, decide_true, Bool.and_self, cond_true]
        rw [same_v1 N ⟨p.Name, p.Effects, cB p.Code 0 0⟩ (by simp; omega) (by simp; omega) (by simp; omega) (by simp; omega)]
        rfl
      · simp only [cond_true, Option.bind_some, decide_true, Bool.and_self]
        rw [same_v1 N ⟨[], [], []⟩ (by simp; omega) (by simp; omega) (by simp) (by simp)]
        rfl
  · rfl
end Go.Proofs.Ytgjdaamkfpbgpaa
namespace Go.Abs
open Go.Sem Go.ChangeShapes Go.RowKit
section
variable {H : Type} {enc : TypeId × Value → H} {P : Program} {w : World} {base : Nat} {sp : Nat → Bool} {held : Bool}
end
end Go.Abs
namespace Go.Abs
open Go.Sem Go.ChangeShapes Go.RowKit
section
variable {H : Type} {enc : TypeId × Value → H} {P : Program} {w : World} {base : Nat} {sp : Nat → Bool} {held : Bool}
def wfI (k : IntKind) (n : Int) : Prop := (Lit.int k n).wf = true
/-- a type is opened: what is read of it lies in the cells 'F a', and a is well formed -/
def Opens (enc : TypeId × Value → H) (P : Program) (w : World) (base : Nat) (sp : Nat → Bool) (held : Bool) (t : TypeId) {α : Type} (F : α → List Value) (wf : α → Prop) : Prop :=
  ∀ (fuel : Nat) (cs : List Value) (x : DataW H × List MemPlace), DataW.trod enc P w base sp held fuel t cs = some x → ∃ a, cs = F a ∧ wf a
theorem opn_int {t : TypeId} {k : IntKind} (ht : P.underlying t = some (.int k)) : Opens enc P w base sp held t (eInt k) (wfI k) := by
  intro fuel cs x h
  obtain ⟨n, hc, _, hw⟩ := DataW.trod_int ht h
  exact ⟨n, hc, hw⟩
end
end Go.Abs
namespace Go.Abs
open Go.Sem Go.ChangeShapes Go.RowKit
section
variable {H : Type} {enc : TypeId × Value → H} {P : Program} {w : World} {base : Nat} {sp : Nat → Bool} {held : Bool}
theorem opn_str {t : TypeId} (ht : P.underlying t = some .string) : Opens enc P w base sp held t eStr (fun l => l.length ≤ maxLen) := by
  intro fuel cs x h
  obtain ⟨s, hc, _, hl⟩ := DataW.trod_string ht h
  exact ⟨s.data.toList, by rw [hc]; rfl, hl⟩
def noO : Own := fun _ => .no
end
end Go.Abs
namespace Go.Proofs.Ytgjdaamkfpbgpaa
open Go.Abs Go.Sem Go.ChangeShapes Go.RowKit
set_option linter.unusedVariables false
set_option maxRecDepth 100000

section
variable {H : Type} {enc : TypeId × Value → H} {w : World} {base : Nat} {sp : Nat → Bool} {held : Bool}
theorem opn_sliceQ {P : Program} {t e : TypeId} {es : Nat} {α : Type} {F : α → List Value} {q : α → DataW H → Prop} (ht : P.underlying t = some (.slice e)) (hce : P.cellsOf e = es) (hes : 0 < es) (hF : ∀ a, (F a).length = es) {fuel : Nat}
    (ho : ∀ m, m < fuel → ∀ (cs : List Value) (x : DataW H × List MemPlace), DataW.trod enc P w base sp held m e cs = some x → ∃ a, cs = F a ∧ q a x.1) {cs : List Value} {x : DataW H × List MemPlace} (h : DataW.trod enc P w base sp held fuel t cs = some x) :
    ∃ (v : Value) (l : List α), cs = [v] ∧ SliceIs w (fun b => (fun _ => Ow.no : Own) b = .no) v es (l.map F) ∧
      ((x.1 = .nil ∧ l = []) ∨ ∃ ys rs, x.1 = .slice ys rs ∧ ys.length = l.length ∧ ∀ (i : Nat) (a : α) (y : DataW H), l[i]? = some a → ys[i]? = some y → q a y) := by
  rcases DataW.trod_slice ht h with ⟨rfl, hx⟩ | ⟨a, len, cap, elems, rest, m, hfu, rfl, rfl, hb, hl, hm, hlen, hel', hsp, hns⟩
  · exact ⟨_, [], rfl, slice_nil, .inl ⟨by rw [hx], rfl⟩⟩
  · have each : ∀ i, i < len → ∃ d : α, (∀ y, elems[i]? = some y → q d y.1) ∧ ∀ j v, (F d)[j]? = some v → w.cell? (a.add (i * es + j)) = some v := by
      intro i hi
      have h1 := hel' i hi
      rw [List.getElem?_eq_getElem (by omega), hce, Option.bind_eq_some_iff] at h1
      obtain ⟨cs', hcs, hy⟩ := h1
      obtain ⟨d, rfl, hd⟩ := ho m (by omega) _ _ hy
      refine ⟨d, fun y hy' => ?_, fun j v hj => ?_⟩
      · rw [List.getElem?_eq_getElem (by omega)] at hy'
        obtain rfl := Option.some.inj hy'
        exact hd
      have hjlt : j < es := by have := (List.getElem?_eq_some_iff.1 hj).1; rw [hF] at this; omega
      have := (World.cells?_some hcs).2.2 j hjlt
      rw [hj] at this
      rw [← this]
      congr 1
      unfold Addr.add
      by_cases e1 : i * es = 0
      · rw [if_pos e1]; simp [e1]
      · rw [if_neg e1, if_neg (by omega)]
        by_cases e2 : j = 0
        · simp [e2]
        · rw [if_neg e2]; simp [Nat.add_assoc]
    have hch : ∃ l : List α, l.length = len ∧ ∀ i d, l[i]? = some d → (∀ y, elems[i]? = some y → q d y.1) ∧ ∀ j v, (F d)[j]? = some v → w.cell? (a.add (i * es + j)) = some v := by
      clear hel' hlen hsp hns hl h
      induction len with
      | zero => exact ⟨[], rfl, by simp⟩
      | succ k ih =>
        obtain ⟨l, hl1, hl2⟩ := ih (fun i hi => each i (by omega))
        obtain ⟨d, hd1, hd2⟩ := each k (by omega)
        refine ⟨l ++ [d], by simp [hl1], fun i d' hi => ?_⟩
        by_cases hik : i < k
        · rw [List.getElem?_append_left (by omega)] at hi; exact hl2 i d' hi
        · rw [List.getElem?_append_right (by omega)] at hi
          have : i = k := by have := (List.getElem?_eq_some_iff.1 hi).1; simp at this; omega
          subst this
          rw [hl1, Nat.sub_self] at hi
          simp at hi
          subst hi
          exact ⟨hd1, hd2⟩
    obtain ⟨l, hl1, hl2⟩ := hch
    refine ⟨_, l, rfl, ?_, .inr ⟨_, _, rfl, by simp [hlen, hl1], fun i d y hi hy => ?_⟩⟩
    · refine cells_open (by rw [List.length_map, hl1]) hl hm (by simp) hes ?_ ?_
      · intro c hc
        obtain ⟨d, hd, rfl⟩ := List.mem_map.1 hc
        exact hF d
      · intro x hx i c hi j v hj
        cases hx
        simp only [List.getElem?_map, Option.map_eq_some_iff] at hi
        obtain ⟨d, hd, rfl⟩ := hi
        exact (hl2 i d hd).2 j v hj
    · rw [List.getElem?_map, Option.map_eq_some_iff] at hy
      obtain ⟨z, hz, rfl⟩ := hy
      exact (hl2 i d hi).1 z hz
theorem len_bulk {α : Type} : ∀ (l : List α) (ys : List (DataW H)), ys.length = l.length → (∀ y : DataW H, 1 ≤ Rows.uptoBulk y) → l.length ≤ Rows.uptoBulkAll ys
  | [], _, _, _ => by simp
  | a :: l, y :: ys, h, h1 => by have := len_bulk l ys (by simpa using h) h1; have := h1 y; simp only [List.length_cons, Rows.uptoBulkAll]; omega
theorem one_le (d : DataW H) : 1 ≤ Rows.uptoBulk d := by
  cases d with
  | lit l => cases l <;> simp [Rows.uptoBulk]
  | nil => simp [Rows.uptoBulk]
  | ptr d => simp [Rows.uptoBulk]
  | slice e r => simp [Rows.uptoBulk]
  | agg p => simp [Rows.uptoBulk]
  | iface t d => simp [Rows.uptoBulk]
  | map e => simp [Rows.uptoBulk]
  | held x => simp [Rows.uptoBulk]
theorem mem_bulk {d : DataW H} : ∀ {l : List (DataW H)}, d ∈ l → Rows.uptoBulk d ≤ Rows.uptoBulkAll l
  | y :: l, h => by
    simp only [Rows.uptoBulkAll]
    rcases List.mem_cons.1 h with rfl | h
    · omega
    · have := mem_bulk h; omega
theorem nodesL_bulk {G : Type} : ∀ (l : List (S_api_TExpr × G)) (ys : List (DataW H)), ys.length = l.length → (∀ (i : Nat) (a : S_api_TExpr × G) (y : DataW H), l[i]? = some a → ys[i]? = some y → a.1.nodes ≤ Rows.uptoBulk y) → nodesL (l.map (·.1)) ≤ Rows.uptoBulkAll ys
  | [], _, _, _ => by simp [nodesL]
  | a :: l, y :: ys, h, hq => by
    have h1 := nodesL_bulk l ys (by simpa using h) (fun i b z hb hz => hq (i + 1) b z (by simpa using hb) (by simpa using hz))
    have h2 := hq 0 a y rfl rfl
    simp only [List.map_cons, nodesL, Rows.uptoBulkAll]; omega
theorem nodesB_bulk {G : Type} : ∀ (l : List (S_api_TStmt × G)) (ys : List (DataW H)), ys.length = l.length → (∀ (i : Nat) (a : S_api_TStmt × G) (y : DataW H), l[i]? = some a → ys[i]? = some y → a.1.nodes ≤ Rows.uptoBulk y) → nodesB (l.map (·.1)) ≤ Rows.uptoBulkAll ys
  | [], _, _, _ => by simp [nodesB]
  | a :: l, y :: ys, h, hq => by
    have h1 := nodesB_bulk l ys (by simpa using h) (fun i b z hb hz => hq (i + 1) b z (by simpa using hb) (by simpa using hz))
    have h2 := hq 0 a y rfl rfl
    simp only [List.map_cons, nodesB, Rows.uptoBulkAll]; omega
end
end Go.Proofs.Ytgjdaamkfpbgpaa
namespace Go.Proofs.Ytgjdaamkfpbgpaa
open Go.Abs Go.Sem Go.ChangeShapes Go.RowKit
set_option linter.unusedVariables false
set_option maxRecDepth 100000

section
variable {H : Type} {enc : TypeId × Value → H} {w : World} {base : Nat} {sp : Nat → Bool} {held : Bool}
abbrev QE (w : World) (p : S_api_TExpr × Value) (d : DataW H) : Prop := p.1.nodes ≤ Rows.uptoBulk d ∧ ∀ k, HsP (NC_api_TExpr_48.S p.1 p.2) w noO k
abbrev QS (w : World) (p : S_api_TStmt × (Value × Value × Value)) (d : DataW H) : Prop := p.1.nodes ≤ Rows.uptoBulk d ∧ ∀ k, HsP (NC_api_TStmt_50.S p.1 p.2) w noO k
theorem argsE {fuel : Nat} (ih : ∀ m, m < fuel → ∀ (cs : List Value) (x : DataW H × List MemPlace), DataW.trod enc Try.prog w base sp held m 48 cs = some x → ∃ p, cs = NC_api_TExpr_48.F p.1 p.2 ∧ QE w p x.1)
    {cs : List Value} {x : DataW H × List MemPlace} (h : DataW.trod enc Try.prog w base sp held fuel 46 cs = some x) :
    ∃ (v : Value) (l : List S_api_TExpr), cs = [v] ∧ nodesL l + 1 ≤ Rows.uptoBulk x.1 ∧ ∀ k, (nro v NC_api_TExpr_48 l).p w noO k := by
  obtain ⟨v, lg, e, s, b⟩ := opn_sliceQ (α := S_api_TExpr × Value) (F := fun p => NC_api_TExpr_48.F p.1 p.2) (q := QE w) (es := 6) Try.underlying46 (by kernel_rfl) (by decide) (fun _ => rfl) ih h
  refine ⟨v, lg.map (·.1), e, ?_, fun k => ⟨⟨lg, rfl, s, fun p hp => ?_⟩, fun q => by cases q⟩⟩
  · rcases b with ⟨b1, rfl⟩ | ⟨ys, rs, b1, b2, b3⟩
    · rw [b1]; simp [nodesL, Rows.uptoBulk]
    · have := nodesL_bulk lg ys b2 (fun i a y hi hy => (b3 i a y hi hy).1)
      rw [b1]; simp only [Rows.uptoBulk]; omega
  · rcases b with ⟨b1, rfl⟩ | ⟨ys, rs, b1, b2, b3⟩
    · cases hp
    · obtain ⟨i, hi⟩ := List.getElem?_of_mem hp
      have hlt := (List.getElem?_eq_some_iff.1 hi).1
      exact (b3 i p _ hi (List.getElem?_eq_getElem (by rw [b2]; exact hlt))).2 k
theorem exprAt : ∀ (fuel : Nat) (cs : List Value) (x : DataW H × List MemPlace), DataW.trod enc Try.prog w base sp held fuel 48 cs = some x → ∃ p, cs = NC_api_TExpr_48.F p.1 p.2 ∧ QE w p x.1 := by
  intro fuel
  induction fuel using Nat.strongRecOn with
  | _ fuel ih =>
  intro cs x h
  obtain ⟨xs, n, hn, hx, hl, hlen, hf⟩ := DataW.trod_struct Try.underlying48 h
  have hl' : cs.length = 6 := hl.trans (by kernel_rfl)
  have hx6 : xs.length = 6 := hlen
  have k3 : Try.prog.cellsOf 3 = 1 := by kernel_rfl
  have k9 : Try.prog.cellsOf 9 = 1 := by kernel_rfl
  have k46 : Try.prog.cellsOf 46 = 1 := by kernel_rfl
  match cs, hl' with
  | [c0, c1, c2, c3, c4, c5], _ =>
    have f0 := hf 0 _ rfl
    have f1 := hf 1 _ rfl
    have f2 := hf 2 _ rfl
    have f3 := hf 3 _ rfl
    have f4 := hf 4 _ rfl
    have f5 := hf 5 _ rfl
    rw [List.getElem?_eq_getElem (show 0 < xs.length by omega)] at f0
    rw [List.getElem?_eq_getElem (show 1 < xs.length by omega)] at f1
    rw [List.getElem?_eq_getElem (show 2 < xs.length by omega)] at f2
    rw [List.getElem?_eq_getElem (show 3 < xs.length by omega)] at f3
    rw [List.getElem?_eq_getElem (show 4 < xs.length by omega)] at f4
    rw [List.getElem?_eq_getElem (show 5 < xs.length by omega)] at f5
    obtain ⟨a0, e0, w0⟩ := (opn_int Try.underlying3) _ _ _ f0
    obtain ⟨a1, e1, w1⟩ := (opn_int Try.underlying3) _ _ _ f1
    obtain ⟨a2, e2, w2⟩ := (opn_int Try.underlying3) _ _ _ f2
    obtain ⟨a3, e3, w3⟩ := (opn_int Try.underlying3) _ _ _ f3
    obtain ⟨a4, e4, w4⟩ := (opn_str Try.underlying9) _ _ _ f4
    obtain ⟨v5, l5, e5, b5, s5⟩ := argsE (fun m hm => ih m (by omega)) f5
    simp [k3, eInt] at e0 e1 e2 e3
    simp [k9, eStr] at e4
    simp [k46] at e5
    subst e0 e1 e2 e3 e4 e5
    refine ⟨(⟨a0, a1, a2, a3, a4, l5⟩, c5), rfl, ?_, fun k h hh => ?_⟩
    · have hm : (xs[5]'(by omega)).1 ∈ xs.map (·.1) := List.mem_map.2 ⟨_, List.getElem_mem _, rfl⟩
      have := mem_bulk hm
      rw [hx]
      simp only [S_api_TExpr.nodes, Rows.uptoBulk]; omega
    · replace hh := (congrArg (fun L => h ∈ L) (TC.S_eq (T := T_api_TExpr_48) (⟨a0, a1, a2, a3, a4, l5⟩ : S_api_TExpr) c5)).mp hh
      simp only [T_api_TExpr_48, List.nil_append, List.map_cons, List.map_nil, List.mem_cons, List.not_mem_nil, or_false] at hh
      subst hh
      exact s5 k
theorem bodyAt {fuel : Nat} (ih : ∀ m, m < fuel → ∀ (cs : List Value) (x : DataW H × List MemPlace), DataW.trod enc Try.prog w base sp held m 50 cs = some x → ∃ p, cs = NC_api_TStmt_50.F p.1 p.2 ∧ QS w p x.1)
    {cs : List Value} {x : DataW H × List MemPlace} (h : DataW.trod enc Try.prog w base sp held fuel 23 cs = some x) :
    ∃ (v : Value) (l : List S_api_TStmt), cs = [v] ∧ nodesB l + 1 ≤ Rows.uptoBulk x.1 ∧ ∀ k, (nro v NC_api_TStmt_50 l).p w noO k := by
  obtain ⟨v, lg, e, s, b⟩ := opn_sliceQ (α := S_api_TStmt × (Value × Value × Value)) (F := fun p => NC_api_TStmt_50.F p.1 p.2) (q := QS w) (es := 12) Try.underlying23 (by kernel_rfl) (by decide) (fun _ => rfl) ih h
  refine ⟨v, lg.map (·.1), e, ?_, fun k => ⟨⟨lg, rfl, s, fun p hp => ?_⟩, fun q => by cases q⟩⟩
  · rcases b with ⟨b1, rfl⟩ | ⟨ys, rs, b1, b2, b3⟩
    · rw [b1]; simp [nodesB, Rows.uptoBulk]
    · have := nodesB_bulk lg ys b2 (fun i a y hi hy => (b3 i a y hi hy).1)
      rw [b1]; simp only [Rows.uptoBulk]; omega
  · rcases b with ⟨b1, rfl⟩ | ⟨ys, rs, b1, b2, b3⟩
    · cases hp
    · obtain ⟨i, hi⟩ := List.getElem?_of_mem hp
      have hlt := (List.getElem?_eq_some_iff.1 hi).1
      exact (b3 i p _ hi (List.getElem?_eq_getElem (by rw [b2]; exact hlt))).2 k
theorem bulk3 (xs : List (DataW H)) (i j k : Nat) (hi : i < j) (hj : j < k) (hk : k < xs.length) : Rows.uptoBulk (xs[i]'(by omega)) + Rows.uptoBulk (xs[j]'(by omega)) + Rows.uptoBulk xs[k] ≤ Rows.uptoBulkAll xs := by
  have one : ∀ (xs : List (DataW H)) (i : Nat) (h : i < xs.length), Rows.uptoBulk xs[i] ≤ Rows.uptoBulkAll xs := fun xs i h => mem_bulk (List.getElem_mem h)
  have two : ∀ (xs : List (DataW H)) (i j : Nat) (hi : i < j) (h : j < xs.length), Rows.uptoBulk (xs[i]'(by omega)) + Rows.uptoBulk xs[j] ≤ Rows.uptoBulkAll xs := by
    intro xs
    induction xs with
    | nil => intro i j hi h; simp at h
    | cons x r ih =>
      intro i j hi h
      cases j with
      | zero => omega
      | succ j =>
        cases i with
        | zero => have := one r j (by simpa using h); simp only [List.getElem_cons_zero, List.getElem_cons_succ, Rows.uptoBulkAll]; omega
        | succ i => have := ih i j (by omega) (by simpa using h); simp only [List.getElem_cons_succ, Rows.uptoBulkAll]; omega
  induction xs generalizing i j k with
  | nil => simp at hk
  | cons x r ih =>
    obtain ⟨j, rfl⟩ : ∃ j', j = j' + 1 := ⟨j - 1, by omega⟩
    obtain ⟨k, rfl⟩ : ∃ k', k = k' + 1 := ⟨k - 1, by omega⟩
    cases i with
    | zero => have := two r j k (by omega) (by simpa using hk); simp only [List.getElem_cons_zero, List.getElem_cons_succ, Rows.uptoBulkAll]; omega
    | succ i =>
      have := ih i j k (by omega) (by omega) (by simpa using hk)
      simp only [List.getElem_cons_succ, Rows.uptoBulkAll]
      exact Nat.le_trans (this two) (Nat.le_add_left _ _)
theorem stmtAt : ∀ (fuel : Nat) (cs : List Value) (x : DataW H × List MemPlace), DataW.trod enc Try.prog w base sp held fuel 50 cs = some x → ∃ p, cs = NC_api_TStmt_50.F p.1 p.2 ∧ QS w p x.1 := by
  intro fuel
  induction fuel using Nat.strongRecOn with
  | _ fuel ih =>
  intro cs x h
  obtain ⟨xs, n, hn, hx, hl, hlen, hf⟩ := DataW.trod_struct Try.underlying50 h
  have hl' : cs.length = 12 := hl.trans (by kernel_rfl)
  have hx7 : xs.length = 7 := hlen
  have k3 : Try.prog.cellsOf 3 = 1 := by kernel_rfl
  have k9 : Try.prog.cellsOf 9 = 1 := by kernel_rfl
  have k23 : Try.prog.cellsOf 23 = 1 := by kernel_rfl
  have k48 : Try.prog.cellsOf 48 = 6 := by kernel_rfl
  match cs, hl' with
  | [c0, c1, c2, c3, x0, x1, x2, x3, x4, x5, c5, c6], _ =>
    have f0 := hf 0 _ rfl
    have f1 := hf 1 _ rfl
    have f2 := hf 2 _ rfl
    have f3 := hf 3 _ rfl
    have f4 := hf 4 _ rfl
    have f5 := hf 5 _ rfl
    have f6 := hf 6 _ rfl
    rw [List.getElem?_eq_getElem (show 0 < xs.length by omega)] at f0
    rw [List.getElem?_eq_getElem (show 1 < xs.length by omega)] at f1
    rw [List.getElem?_eq_getElem (show 2 < xs.length by omega)] at f2
    rw [List.getElem?_eq_getElem (show 3 < xs.length by omega)] at f3
    rw [List.getElem?_eq_getElem (show 4 < xs.length by omega)] at f4
    rw [List.getElem?_eq_getElem (show 5 < xs.length by omega)] at f5
    rw [List.getElem?_eq_getElem (show 6 < xs.length by omega)] at f6
    obtain ⟨a0, e0, w0⟩ := (opn_int Try.underlying3) _ _ _ f0
    obtain ⟨a1, e1, w1⟩ := (opn_int Try.underlying3) _ _ _ f1
    obtain ⟨a2, e2, w2⟩ := (opn_int Try.underlying3) _ _ _ f2
    obtain ⟨a3, e3, w3⟩ := (opn_str Try.underlying9) _ _ _ f3
    obtain ⟨⟨a4, g4⟩, e4, b4, s4⟩ := exprAt _ _ _ f4
    obtain ⟨v5, l5, e5, b5, s5⟩ := bodyAt (fun m hm => ih m (by omega)) f5
    obtain ⟨v6, l6, e6, b6, s6⟩ := bodyAt (fun m hm => ih m (by omega)) f6
    simp [k3, eInt] at e0 e1 e2
    simp [k9, eStr] at e3
    simp [k48] at e4
    simp [k23] at e5 e6
    subst e0 e1 e2 e3 e5 e6
    have e4' : [x0, x1, x2, x3, x4, x5] = [.int .i64 a4.Op, .int .i64 a4.Type_, .int .i64 a4.N, .int .i64 a4.Slot, .string (bs a4.S), g4] := e4
    simp only [List.cons.injEq, and_true] at e4'
    obtain ⟨rfl, rfl, rfl, rfl, rfl, rfl⟩ := e4'
    refine ⟨(⟨a0, a1, a2, a3, a4, l5, l6⟩, (x5, c5, c6)), rfl, ?_, fun k h hh => ?_⟩
    · have := bulk3 (xs.map (·.1)) 4 5 6 (by omega) (by omega) (by simp; omega)
      simp only [List.getElem_map] at this
      rw [hx]
      simp only [S_api_TStmt.nodes, Rows.uptoBulk] at b4 ⊢; omega
    · replace hh := (congrArg (fun L => h ∈ L) (TC.S_eq (T := T_api_TStmt_50) (⟨a0, a1, a2, a3, a4, l5, l6⟩ : S_api_TStmt) (x5, c5, c6))).mp hh
      simp only [T_api_TStmt_50, List.map_cons, List.map_nil, List.cons_append, List.nil_append, List.mem_cons, List.not_mem_nil, or_false] at hh
      rcases hh with rfl | rfl | rfl
      · refine s4 k _ ?_
        refine (congrArg (fun L => nro x5 NC_api_TExpr_48 a4.Args ∈ L) (TC.S_eq (T := T_api_TExpr_48) a4 x5)).mpr ?_
        exact List.mem_singleton.2 rfl
      · exact s5 k
      · exact s6 k
/-- a program, opened -/
theorem progAt {fuel : Nat} {cs : List Value} {x : DataW H × List MemPlace} (h : DataW.trod enc Try.prog w base sp held fuel 25 cs = some x) (hb : Rows.uptoBulk x.1 ≤ 1048576) :
    ∃ (p : S_api_Program) (v1 v2 : Value), cs = [.string (bs p.Name), v1, v2] ∧ nodesB p.Code ≤ 1048576 ∧ p.Effects.length ≤ 1048576 ∧ p.Name.length ≤ 1048576 ∧ (∀ e ∈ p.Effects, wfI .i64 e) ∧
      (∀ k, (ro v1 1 (p.Effects.map (eInt .i64))).p w noO k) ∧ ∀ k, (nro v2 NC_api_TStmt_50 p.Code).p w noO k := by
  obtain ⟨xs, n, hn, hx, hl, hlen, hf⟩ := DataW.trod_struct Try.underlying25 h
  have hl' : cs.length = 3 := hl.trans (by kernel_rfl)
  have hx3 : xs.length = 3 := hlen
  have k9 : Try.prog.cellsOf 9 = 1 := by kernel_rfl
  have k22 : Try.prog.cellsOf 22 = 1 := by kernel_rfl
  have k23 : Try.prog.cellsOf 23 = 1 := by kernel_rfl
  match cs, hl' with
  | [c0, c1, c2], _ =>
    have f0 := hf 0 _ rfl
    have f1 := hf 1 _ rfl
    have f2 := hf 2 _ rfl
    rw [List.getElem?_eq_getElem (show 0 < xs.length by omega)] at f0
    rw [List.getElem?_eq_getElem (show 1 < xs.length by omega)] at f1
    rw [List.getElem?_eq_getElem (show 2 < xs.length by omega)] at f2
    obtain ⟨q0, e0, y0, w0⟩ := DataW.trod_string Try.underlying9 f0
    obtain ⟨v1, l1, e1, s1, b1⟩ := opn_sliceQ (F := eInt .i64) (q := fun a _ => wfI .i64 a) (es := 1) Try.underlying22 (by kernel_rfl) (by decide) (fun _ => rfl) (fun m hm cs x hh => (opn_int Try.underlying3) _ _ _ hh) f1
    obtain ⟨v2, l2, e2, b2, s2⟩ := bodyAt (fun m hm => stmtAt m) f2
    simp [k9] at e0
    simp [k22] at e1
    simp [k23] at e2
    subst e0 e1 e2
    have hbb := bulk3 (xs.map (·.1)) 0 1 2 (by omega) (by omega) (by simp; omega)
    simp only [List.getElem_map] at hbb
    rw [hx] at hb
    simp only [Rows.uptoBulk] at hb
    rw [y0] at hbb
    simp only [Rows.uptoBulk] at hbb
    refine ⟨⟨q0.data.toList, l1, l2⟩, c1, c2, rfl, by simp only; omega, ?_, by simp only; omega, ?_, fun _ => s1, s2⟩
    · rcases b1 with ⟨_, rfl⟩ | ⟨ys, rs, d1, d2, _⟩
      · simp
      · have := len_bulk l1 ys d2 one_le
        rw [d1] at hbb
        simp only [Rows.uptoBulk] at hbb ⊢; omega
    · intro e he
      rcases b1 with ⟨_, rfl⟩ | ⟨ys, rs, d1, d2, d3⟩
      · cases he
      · obtain ⟨i, hi⟩ := List.getElem?_of_mem he
        have hlt := (List.getElem?_eq_some_iff.1 hi).1
        exact d3 i e _ hi (List.getElem?_eq_getElem (by rw [d2]; exact hlt))
end
end Go.Proofs.Ytgjdaamkfpbgpaa
