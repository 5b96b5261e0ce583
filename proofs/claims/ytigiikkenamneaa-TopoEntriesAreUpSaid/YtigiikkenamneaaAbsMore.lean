/-
  More rules: comparing with nil, arrays as values, results that lie in a block.
-/
import Derived.Test.YtigiikkenamneaaAbsDraw
namespace Go.Abs

variable {E : Env} {k : List KI} {V : VF} {H : List HA}

section more
variable {P : Program} {d : Option Nat} {ty : TypeId} {pos : String} {af : Array Edge} {g : Option (Nat × Bool)}

theorem run_equalIn_slice {w : World} {T el : TypeId} (hu : ∀ w, (underlying T).run P w = .ok (.slice el) w) (d : Nat) (a : Option Addr) (n cap : Nat) :
    (Op.equalIn (d + 1) T (.slice a n cap) (.slice none 0 0)).run P w = .ok a.isNone w := by
  cases a <;> simp [Op.equalIn, hu]
theorem run_equal_slice {w : World} {T el : TypeId} (hu : ∀ w, (underlying T).run P w = .ok (.slice el) w) (a : Option Addr) (n cap : Nat) :
    (Op.equal T (.slice a n cap) (.slice none 0 0)).run P w = .ok a.isNone w := run_equalIn_slice hu 9999 a n cap
/-- 's == nil': if so, there is nothing in it -/
theorem t_isnil {T el U : TypeId} {x y : Operand} {v : Value} {es : Nat} {cells : List (List Value)} {h : HA} (m : Nat) (hu : ∀ w, (underlying T).run P w = .ok (.slice el) w)
    (hx : V.ev x = some v) (hy : V.ev y = some (.slice none 0 0)) (hm : H[m]? = some h) (hr : Reads h v es cells) :
    OpT P ⟨d, .binOp .eql T x y U, ty, pos, af, g⟩ V H (fun v' H' => ∃ b : Bool, v' = .bool b ∧ H' = H ∧ (b = true → cells = [])) := by
  intro ρ w o hf hbd hs
  obtain ⟨a, cap, e1, e2, e3, e4, e5⟩ := hr.is w o m (hs m h hm)
  subst e1
  have hrun : (execOp ρ ⟨d, .binOp .eql T x y U, ty, pos, af, g⟩).run P w = .ok (.value (.bool a.isNone)) w := by
    simp [execOp, hf x _ hx, hf y _ hy, eqGuard, binOp, run_equal_slice hu]
  unfold Does
  rw [hrun]
  refine ⟨H, o, ⟨_, rfl, rfl, fun hb => ?_⟩, hbd, Tr.refl w o, hs⟩
  cases a with
  | some a => simp at hb
  | none =>
    have := e4 rfl
    exact List.length_eq_zero_iff.1 (by omega)

/-- a list of bytes as the cells of an array -/
def arr8 (l : List UInt8) : List Value := l.map fun b => .int .u8 b.toNat
theorem arr8_len (l : List UInt8) : (arr8 l).length = l.length := by simp [arr8]
theorem arr8_one (l : List UInt8) : ∀ u ∈ arr8 l, u.oneCell' = true := by
  intro u hu
  simp only [arr8, List.mem_map] at hu
  obtain ⟨b, _, rfl⟩ := hu
  rfl
theorem arr8_map (l : List UInt8) : (arr8 l).map ([·]) = u8c l := by simp [arr8, u8c]
theorem reads_arr8 {b : Nat} {l : List UInt8} (n : Nat) (hn : l.length = n) (h : n ≤ 4294967296) : Reads (box b (arr8 l)) (.slice (some ⟨b, 0, none⟩) n n) 1 (u8c l) := by
  have := reads_box (b := b) (vs := arr8 l) (by rw [arr8_len, hn]; unfold maxLen; omega) 0 n (by rw [arr8_len]; omega)
  rw [List.drop_zero, List.take_of_length_le (by rw [arr8_len]; omega), arr8_map] at this
  exact this
/-- a list of arrays of n bytes as cells -/
def arrc (l : List (List UInt8)) : List (List Value) := l.map arr8
theorem arrc_len (l : List (List UInt8)) : (arrc l).length = l.length := by simp [arrc]
theorem arrc_get {l : List (List UInt8)} {i : Nat} (h : i < l.length) : (arrc l)[i]? = some (arr8 l[i]) := mapc_get h
theorem arrc_append (a b : List (List UInt8)) : arrc a ++ arrc b = arrc (a ++ b) := by simp [arrc]
theorem arrc_ok {n : Nat} (l : List (List UInt8)) (hl : ∀ d ∈ l, d.length = n) : ∀ c ∈ arrc l, c.length = n ∧ ∀ u ∈ c, u.oneCell' = true := by
  intro c hc
  simp only [arrc, List.mem_map] at hc
  obtain ⟨b, hb, rfl⟩ := hc
  exact ⟨by rw [arr8_len, hl b hb], arr8_one b⟩

theorem writeAt_all : ∀ (vs : List Value) (c : List Value), c.length = vs.length → wrL vs 0 c = c := by
  intro vs c h
  apply List.ext_getElem?
  intro m
  have := get_writeAt c vs.toArray 0 m (by simp [h])
  simp only [wrL]
  rw [Array.getElem?_toList, this]
  by_cases hm : m < c.length
  · rw [if_pos ⟨Nat.zero_le _, by omega⟩]; simp
  · rw [if_neg (by omega), Array.getElem?_eq_none (by simp; omega), List.getElem?_eq_none (by omega)]
/-- a store of a whole array -/
theorem t_store_all {T : TypeId} {x y : Operand} {b n : Nat} {vs c : List Value} (m : Nat) (hz : ∀ w, (sizeOf T).run P w = .ok n w) (hx : V.ev x = some (boxP b 0)) (hy : V.ev y = some (.agg c.toArray))
    (hm : H[m]? = some (box b vs)) (hn : c.length = n) (hl : vs.length = n) (h1 : ∀ u ∈ c, u.oneCell' = true) :
    OpT P ⟨d, .store T x y, ty, pos, af, g⟩ V H (fun v' H' => v' = undef ∧ H' = H.set m (box b c)) := by
  have := t_store (d := d) (ty := ty) (pos := pos) (af := af) (g := g) m hz hx hy hm (by simpa [Value.cells] using hn) (by omega) (by simpa [Value.cells] using h1)
  simp only [Value.cells] at this
  rw [writeAt_all vs c (by omega)] at this
  exact this
theorem y_load_all {T : TypeId} {x : Operand} {b n : Nat} {vs : List Value} (m : Nat) (ha : ∀ w, (isAgg T).run P w = .ok true w) (hz : ∀ w, (sizeOf T).run P w = .ok n w)
    (hx : V.ev x = some (boxP b 0)) (hm : H[m]? = some (box b vs)) (hn : vs.length = n) : OpY P ⟨d, .load T x, ty, pos, af, g⟩ V H (.agg vs.toArray) := by
  subst hn
  exact y_load_boxagg (c := vs) m ha hz hx hm (by simp)

/-- a slice's first cells seen as an array -/
theorem y_s2a {T el : TypeId} {x : Operand} {v : Value} {n es : Nat} {cells : List (List Value)} {h : HA} (m : Nat) (hu : ∀ w, (underlying T).run P w = .ok (.array n el) w)
    (hx : V.ev x = some v) (hm : H[m]? = some h) (hr : Reads h v es cells) (hn : n ≤ cells.length) (hp : 0 < n) : OpY P ⟨d, .sliceToArrayPointer T x, ty, pos, af, g⟩ V H (elemP v (0 * es)) := by
  intro ρ w o hf hbd hs
  obtain ⟨_, b, off, cap, e1, _⟩ := (hr.is w o m (hs m h hm)).elem (List.getElem?_eq_getElem (show 0 < cells.length by omega))
  subst e1
  simp [execOp, hf x _ hx, Instr.arrayAt, hu, elemP, Value.sbase, Nat.not_lt.2 hn]
theorem y_load_arr8 {T : TypeId} {x : Operand} {v : Value} {n : Nat} {l : List UInt8} {h : HA} (m : Nat) (ha : ∀ w, (isAgg T).run P w = .ok true w) (hz : ∀ w, (sizeOf T).run P w = .ok n w)
    (hx : V.ev x = some (elemP v (0 * 1))) (hm : H[m]? = some h) (hr : Reads h v 1 (u8c l)) (hn : n ≤ l.length) (hp : 0 < n) : OpY P ⟨d, .load T x, ty, pos, af, g⟩ V H (.agg (arr8 (l.take n)).toArray) := by
  intro ρ w o hf hbd hs
  have hi := hr.is w o m (hs m h hm)
  obtain ⟨_, b, off, cap, e1, _⟩ := hi.elem (i := 0) (u8c_get (show 0 < l.length by omega))
  have hload : ∀ (j : Nat) (x : Value), (arr8 (l.take n))[j]? = some x → w.cell? ⟨b, off + j, none⟩ = some x := by
    intro j x hj
    simp only [arr8, List.getElem?_map, List.getElem?_take] at hj
    split at hj
    · cases hlj : l[j]? with
      | none => rw [hlj] at hj; simp at hj
      | some bb =>
        rw [hlj] at hj; simp at hj
        obtain ⟨_, b', off', cap', e3, e4⟩ := hi.elem (i := j) (c := [.int .u8 bb.toNat]) (by simp [u8c, hlj])
        rw [e1] at e3
        simp only [Value.slice.injEq, Option.some.injEq, Addr.mk.injEq, and_true] at e3
        obtain ⟨⟨rfl, rfl⟩, _⟩ := e3
        have := e4 0 x (by simp [hj])
        simpa using this
    · simp at hj
  have := run_loadCells (P := P) b off _ hload
  rw [arr8_len, List.length_take, Nat.min_eq_left hn] at this
  subst e1
  simp [execOp, hf x _ hx, Instr.loadAt, Instr.sureAddr, elemP, Value.sbase, loadVar, ha, hz, this]

/-! '==' on arrays of bytes -/
theorem run_all_loop (w : World) (f : Nat → Sem Bool) (b : Nat → Bool) : ∀ (l : List Nat), (∀ i ∈ l, (f i).run P w = .ok (b i) w) →
    (forIn l ((none, ()) : Option Bool × Unit) (fun i _ => do
            let x ← f i
            if x = false then pure (ForInStep.done (some false, ())) else pure (ForInStep.yield (none, ())) : Nat → Option Bool × Unit → Sem (ForInStep (Option Bool × Unit)))).run P w = .ok (if l.all b then none else some false, ()) w
  | [], _ => by simp
  | i :: l, h => by
    have h0 := h i (List.mem_cons_self ..)
    have ih := run_all_loop w f b l (fun j hj => h j (List.mem_cons_of_mem _ hj))
    simp only [List.forIn_cons, Sem.run_bind, h0, Result.andThen_ok, List.all_cons]
    by_cases hb : b i = true
    · simp only [hb, if_neg (show ¬ (true = false) by decide), Sem.run_pure, Result.andThen_ok, Bool.true_and]
      exact ih
    · simp [hb]
theorem run_all (w : World) (f : Nat → Sem Bool) (b : Nat → Bool) (n : Nat) (hf : ∀ i, i < n → (f i).run P w = .ok (b i) w) :
    (do for i in [0:n] do
          if !(← f i) then return false
        pure true : Sem Bool).run P w = .ok ((List.range n).all b) w := by
  have h := run_all_loop (P := P) w f b (List.range' 0 n) (fun i hi => hf i (by simp at hi; omega))
  simp only [Std.Legacy.Range.forIn_eq_forIn_range']
  simp
  rw [h]
  rw [List.range_eq_range']
  cases hb : (List.range' 0 n).all b <;> simp

theorem run_equalIn_arr8 {w : World} {T el : TypeId} {n : Nat} (hu : ∀ w, (underlying T).run P w = .ok (.array n el) w) (he : ∀ w, (underlying el).run P w = .ok (.int .u8) w) (hz : ∀ w, (sizeOf el).run P w = .ok 1 w)
    (ha : ∀ w, (isAgg el).run P w = .ok false w) (d : Nat) {l l' : List UInt8} (h1 : l.length = n) (h2 : l'.length = n) :
    (Op.equalIn (d + 2) T (.agg (arr8 l).toArray) (.agg (arr8 l').toArray)).run P w = .ok (decide (l = l')) w := by
  have key := run_all (P := P) w (fun i => do Op.equalIn (d + 1) el (← part el (arr8 l).toArray (i * 1)) (← part el (arr8 l').toArray (i * 1))) (fun i => l.getD i 0 == l'.getD i 0) n (fun i hi => by
      obtain ⟨x, hx⟩ : ∃ x, l[i]? = some x := ⟨_, List.getElem?_eq_getElem (by omega)⟩
      obtain ⟨y, hy⟩ : ∃ y, l'[i]? = some y := ⟨_, List.getElem?_eq_getElem (by omega)⟩
      have e3 : ∀ a b : UInt8, ((a.toNat : Int) == (b.toNat : Int)) = (a == b) := fun a b => by
        rw [Bool.eq_iff_iff, beq_iff_eq, beq_iff_eq, ← UInt8.toNat_inj]; omega
      simp [part, ha, arr8, hx, hy, Op.equalIn, he, e3])
  have hall : ((List.range n).all fun i => l.getD i 0 == l'.getD i 0) = decide (l = l') := by
    rw [Bool.eq_iff_iff, List.all_eq_true, decide_eq_true_eq]
    constructor
    · intro h
      apply List.ext_getElem (by omega)
      intro i hi hi'
      have := h i (by simp; omega)
      simpa [hi, hi'] using this
    · rintro rfl i _; simp
  rw [hall] at key
  simpa [Op.equalIn, hu, hz] using key
theorem y_eql8 {T el U : TypeId} {n : Nat} {x y : Operand} {l l' : List UInt8} (hg : P.eqGuardType P.depth T = false) (hu : ∀ w, (underlying T).run P w = .ok (.array n el) w) (he : ∀ w, (underlying el).run P w = .ok (.int .u8) w) (hz : ∀ w, (sizeOf el).run P w = .ok 1 w)
    (ha : ∀ w, (isAgg el).run P w = .ok false w) (hx : V.ev x = some (.agg (arr8 l).toArray)) (hy : V.ev y = some (.agg (arr8 l').toArray)) (h1 : l.length = n) (h2 : l'.length = n) :
    OpY P ⟨d, .binOp .eql T x y U, ty, pos, af, g⟩ V H (.bool (decide (l = l'))) := by
  intro ρ w o hf _ _
  have e : (Op.equal T (.agg (arr8 l).toArray) (.agg (arr8 l').toArray)).run P w = .ok (decide (l = l')) w := run_equalIn_arr8 hu he hz ha 9998 h1 h2
  simp [execOp, hf x _ hx, hf y _ hy, eqGuard, hg, binOp, e]
theorem y_neq8 {T el U : TypeId} {n : Nat} {x y : Operand} {l l' : List UInt8} (hg : P.eqGuardType P.depth T = false) (hu : ∀ w, (underlying T).run P w = .ok (.array n el) w) (he : ∀ w, (underlying el).run P w = .ok (.int .u8) w) (hz : ∀ w, (sizeOf el).run P w = .ok 1 w)
    (ha : ∀ w, (isAgg el).run P w = .ok false w) (hx : V.ev x = some (.agg (arr8 l).toArray)) (hy : V.ev y = some (.agg (arr8 l').toArray)) (h1 : l.length = n) (h2 : l'.length = n) :
    OpY P ⟨d, .binOp .neq T x y U, ty, pos, af, g⟩ V H (.bool (!decide (l = l'))) := by
  intro ρ w o hf _ _
  have e : (Op.equal T (.agg (arr8 l).toArray) (.agg (arr8 l').toArray)).run P w = .ok (decide (l = l')) w := run_equalIn_arr8 hu he hz ha 9998 h1 h2
  simp [execOp, hf x _ hx, hf y _ hy, eqGuard, hg, binOp, e]
end more

/-- the end of a function: what its results read as, each by itself -/
def ResIs (P : Program) (V : VF) (H : List HA) (r : ResultVar) (v : Value) : Prop :=
  ∀ (a : Act) (w : World) (o : Own), Agree V a → Sats w o H → ∀ g : ResultVar → Sem Value, (∀ t, g (.tmp t) = pure (a.tmps.getD t undef)) → (∀ c t, g (.cell c t) = (do loadVar t (← asAddr (a.tmps.getD c undef)))) → (g r).run P w = .ok v w
theorem res_tmp {P : Program} {t : Nat} {v : Value} (h : V t = some v) : ResIs P V H (.tmp t) v := by
  intro a w o ha _ g h1 _
  rw [h1, Sem.run_pure, ha t v h]
theorem res_box {P : Program} {c t : Nat} {b : Nat} {vs : List Value} {n : Nat} (m : Nat) (ha : ∀ w, (isAgg t).run P w = .ok true w) (hz : ∀ w, (sizeOf t).run P w = .ok n w) (h : V c = some (boxP b 0)) (hm : H[m]? = some (box b vs)) (hn : vs.length = n) :
    ResIs P V H (.cell c t) (.agg vs.toArray) := by
  subst hn
  intro a w o hA hs g _ h2
  obtain ⟨_, _, T', fz, e3, _⟩ := hs m _ hm
  have := run_loadCells (P := P) (w := w) b 0 vs (fun j y hj => by rw [cell_at e3]; simpa using hj)
  rw [h2, hA c _ h]
  simp [boxP, asAddr, loadVar, ha, hz, this]
theorem res_boxs {P : Program} {c t : Nat} {b : Nat} {v : Value} (m : Nat) (ha : ∀ w, (isAgg t).run P w = .ok false w) (h : V c = some (boxP b 0)) (hm : H[m]? = some (box b [v])) : ResIs P V H (.cell c t) v := by
  intro a w o hA hs g _ h2
  obtain ⟨_, _, T', fz, e3, _⟩ := hs m _ hm
  have := cell_at e3 0
  rw [h2, hA c _ h]
  simp [boxP, asAddr, loadVar, ha, this]
theorem mapM_res {P : Program} {a : Act} {w : World} {o : Own} (hA : Agree V a) (hs : Sats w o H) (g : ResultVar → Sem Value) (h1 : ∀ t, g (.tmp t) = pure (a.tmps.getD t undef)) (h2 : ∀ c t, g (.cell c t) = (do loadVar t (← asAddr (a.tmps.getD c undef)))) :
    ∀ (rs : List ResultVar) (vs : List Value), rs.length = vs.length → (∀ (i : Nat) (r : ResultVar) (v : Value), rs[i]? = some r → vs[i]? = some v → ResIs P V H r v) → (rs.mapM g).run P w = .ok vs w := by
  intro rs
  induction rs with
  | nil => intro vs hl _; cases vs <;> simp_all
  | cons r rs ih =>
    intro vs hl h
    cases vs with
    | nil => simp at hl
    | cons v vs =>
      have h0 := h 0 r v rfl rfl a w o hA hs g h1 h2
      have h3 := ih vs (by simpa using hl) (fun i r v h2 h3 => h (i + 1) r v (by simpa using h2) (by simpa using h3))
      rw [List.mapM_cons, Sem.run_bind, h0]
      simp [h3]
theorem results_run {P : Program} {fn : Func} {a : Act} {w : World} {o : Own} (hA : Agree V a) (hs : Sats w o H) (rs : List ResultVar) (vs : List Value) (hr : fn.results = rs.toArray) (hl : rs.length = vs.length)
    (h : ∀ (i : Nat) (r : ResultVar) (v : Value), rs[i]? = some r → vs[i]? = some v → ResIs P V H r v) : (results fn a.tmps).run P w = .ok (tup vs) w := by
  unfold results
  rw [hr, List.mapM_toArray, Sem.run_bind, Sem.run_map, mapM_res hA hs _ (fun _ => rfl) (fun _ _ => rfl) rs vs hl h]
  match vs with
  | [] => simp [tup]
  | [v] => simp [tup]
  | v :: u :: r => simp [tup]

theorem fin_res {P : Program} {n : Nat} {w0 : World} {o0 : Own} {fn : Func} {post : Post} (rs : List ResultVar) (vs : List Value) (is : List Nat) (G : List HA)
    (hr : fn.results = rs.toArray) (hl : rs.length = vs.length) (hv : ∀ (i : Nat) (r : ResultVar) (v : Value), rs[i]? = some r → vs[i]? = some v → ResIs P V H r v) (hn : is.Nodup) (hG : Picks is H G)
    (hp : post (tup vs) G) : Fin (EnvF P n w0 o0 fn post) V H := by
  intro a w r
  exact r.leaves fun w' o hb ht hs => ⟨_, results_run r.2.2.1 hs rs vs hr hl hv, _, G, reown is o, rfl, hp, bnd_reown is hb, tr_reown' is ht, sats_pick hn hG.get hs⟩
theorem resnil {P : Program} : ∀ (i : Nat) (r : ResultVar) (v : Value), ([] : List ResultVar)[i]? = some r → ([] : List Value)[i]? = some v → ResIs P V H r v := fun i r v h => by simp at h
theorem rescons {P : Program} {r0 : ResultVar} {v0 : Value} {rs : List ResultVar} {vs : List Value} (h0 : ResIs P V H r0 v0) (h : ∀ (i : Nat) (r : ResultVar) (v : Value), rs[i]? = some r → vs[i]? = some v → ResIs P V H r v) :
    ∀ (i : Nat) (r : ResultVar) (v : Value), (r0 :: rs)[i]? = some r → (v0 :: vs)[i]? = some v → ResIs P V H r v := by
  intro i r v h1 h2
  cases i with
  | zero => simp at h1 h2; subst h1; subst h2; exact h0
  | succ i => exact h i r v (by simpa using h1) (by simpa using h2)
/-- an operation whose guard was not worked out itself -/
theorem ops_un {ops : Array Oper} {op : Oper} {rest : List Oper} (j : Nat) (b : Bool) (t : Nat) (hg : op.guard = some (j, b)) (hj : ((ops[j]?).bind (·.dst)) = some t)
    (hv : V t = some undef) (ht : Nat.blt t E.n = true) (hd : inB E.n op.dst = true) (hk : Ops E ops rest k (V.put op.dst undef) H) : Ops E ops (op :: rest) k V H := by
  intro a w r
  have h2 := getD_some r.1 ht (r.2.2.1 t _ hv)
  unfold wpListIn
  rw [if_neg (by cases b <;> simp [Region.wanted, hg, yielded, hj, h2, undef])]
  refine ⟨fun _ _ => trivial, ?_⟩
  obtain ⟨h1, h2, h3, o, hb, ht, hs⟩ := r
  exact hk _ _ (Rel.put h1 h2 h3 hd hb ht (Tr.refl w o) hs)
theorem still_un {ops : Array Oper} {op : Oper} {rest : List Oper} (j : Nat) (b : Bool) (t : Nat) (hg : op.guard = some (j, b)) (hj : ((ops[j]?).bind (·.dst)) = some t)
    (hv : V t = some undef) (ht : Nat.blt t E.n = true) (hd : inB E.n op.dst = true) (hk : StillL E ops rest k (V.put op.dst undef) H) : StillL E ops (op :: rest) k V H := by
  intro a w r
  have h2 := getD_some r.1 ht (r.2.2.1 t _ hv)
  unfold wpStill
  rw [if_neg (by cases b <;> simp [Region.wanted, hg, yielded, hj, h2, undef])]
  obtain ⟨h1, h2, h3, o, hb, ht, hs⟩ := r
  exact hk _ w (Rel.put h1 h2 h3 hd hb ht (Tr.refl w o) hs)
end Go.Abs
