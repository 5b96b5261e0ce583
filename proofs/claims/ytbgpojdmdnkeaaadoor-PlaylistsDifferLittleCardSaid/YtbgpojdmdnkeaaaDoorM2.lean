/-
  Texts that stand side by side: AbsRec, AbsLib, TrydShelf, HandD, RecD.
-/
import Derived.Test.YtbgpojdmdnkeaaaDoorM1
import Derived.RecoverIn
import Derived.Lib.AtoiErrMem
import Derived.Lib.Join
import Derived.Lib.Split
import Derived.Lib.AtoiAll
import Derived.Lib.ItoaNum
import Derived.Lib.LaidTab
import Derived.Lib.IndexBytes
import Derived.Below
import Derived.Sort.Grow
import Derived.Deep.Draws
import Derived.Lib.ConvBytes
import Derived.Shelf.Strings.Builder1
import Derived.Shelf.Strings.Builder2
import Derived.Shelf.Strings.OnBuilder
import Derived.Shelf.Small.Strs
import Derived.Shelf.Utf8.RuneCount
import Derived.Shelf.Strconv.Atoi
import Derived.Shelf.Strconv.Itoa0
import Derived.Shelf.Strconv.Itoa1
import Derived.Shelf.LaysM
import Derived.Shelf.Strconv.Itoa2
import Derived.Shelf.Strconv.Itoa3
import Derived.Shelf.Strconv.AtoiErrFast
import Derived.Shelf.Strconv.ParseIntEmpty
import Derived.Shelf.Strconv.AtoiFail
import Derived.Shelf.Strconv.Clone
import Derived.Shelf.Strconv.SyntaxError
import Derived.Shelf.LaysC
import Derived.Shelf.Strconv.ToError
import Derived.Shelf.Strconv.Lower
import Derived.Shelf.Strconv.ParseUint10
import Derived.Shelf.Strconv.ParseUint10Empty
import Derived.Shelf.Strconv.ParseUint10Any
import Derived.Shelf.Strconv.ParseInt10
import Derived.Shelf.Strconv.AtoiLong
import Derived.Shelf.Strconv.AtoiInnerAll
import Derived.Shelf.Strconv.RangeError
import Derived.Shelf.Strconv.ToErrorRange
import Derived.Shelf.Strconv.AtoiAll
import Derived.Shelf.Strconv.ErrVarAll
import Derived.Shelf.Strings.Search1
import Derived.Shelf.Strings.Search2
import Derived.Shelf.Strings.Search3
import Derived.Shelf.Strings.Count
import Derived.Shelf.Strings.Shaped
import Derived.Shelf.Strings.Split
import Derived.Shelf.Strings.SplitShaped
import Derived.Shelf.Unicode.Decode
import Derived.Shelf.Strings.RuneCount
import Derived.Shelf.Strings.Explode
import Derived.Shelf.Unicode.DecodeSlow
import Derived.Shelf.Unicode.DecodeAny
import Derived.Test.YtbgpojdmdnkeaaaDoorProg
import Derived.Test.YtbgpojdmdnkeaaaDoorM0
namespace Go.Abs
variable {E : Env} {k : List KI} {V : VF} {H : List HA}

def bodyQ (P : Program) (fn : Func) (w0 : World) (o0 : Own) (post : Post) : Exit → Act → World → Prop
  | .outgrown, _, _ => False
  | e, a, w => bodyPostM (FR none) 0 P fn (Ends w0 o0 post) e a w
def EnvQ (P : Program) (n : Nat) (w0 : World) (o0 : Own) (fn : Func) (post : Post) : Env :=
  { P := P, n := n, w0 := w0, o0 := o0, r := none, nd := true, B := bodyQ P fn w0 o0 post, blind := false, np := fun h => (by cases h), no := fun _ _ h => h }
theorem fnq_of_run {P : Program} {f : FuncId} {fn : Func} {c : Code} {args : List Value} {H : List HA} {post : Post} {n : Nat}
    (hf : P.funcs[f]? = some fn) (hb : fn.body = some c) (hm : fn.ntmps = n) (hn : Nat.ble args.length n = true)
    (h : ∀ w0 o0, Run (EnvQ P n w0 o0 fn post) c [] (VF.args args 0) H) : Meets P f args H post := by
  intro w o hbd hs
  refine callsIn_wide.1 (callsIn_of_wp_marks (F := FR none) (n := 0) hf hb trivial ?_)
  refine wpIn_mono (h w o _ _ ⟨?_, (fun _ => rfl), ?_, o, hbd, TrD.of (TrM.refl w o) rfl, hs⟩) (fun e _ _ h => ?_)
  · have := Nat.le_of_ble_eq_true hn
    simp [hm, EnvQ]; omega
  · intro t v hv
    obtain ⟨_, h2⟩ := VF.args_get args 0 t v hv
    exact getD_append_left v (by simpa using h2)
  · cases e with
    | outgrown => exact h.elim
    | normal => exact h
    | ret => exact h
    | panic _ => exact h
    | exit _ => exact h
    | goto _ => exact h
def Env.push (E : Env) (D : Deferred) : Env := { E with db := D :: E.db, nd := false }
theorem Qof_push {D : Deferred} : ∀ (k : List KI), Qof (E.push D) k = Qof E k
  | [] => rfl
  | .code y :: k => by simp only [Qof]; rw [Qof_push k]; rfl
  | .blk id :: k => by simp only [Qof]; rw [Qof_push k]
  | .scope :: k => by simp only [Qof]; rw [Qof_push k]
  | .loop L :: k => by simp only [Qof]; rw [Qof_push k]
/-- 'defer' of a function value -/
theorem ops_defer {ops : Array Oper} {rest : List Oper} {ty : TypeId} {pos : String} {af : Array Edge} {g : Option (Nat × Bool)} {x : Operand} {f : FuncId} {cs : List Value} (hw : Wants E.n ops V ⟨none, .defer ⟨.value x, #[], #[]⟩, ty, pos, af, g⟩)
    (hx : V.ev x = some (.func (.func f) #[] cs.toArray)) (h0 : E.db = []) (hr : E.nd = true) (hr0 : E.r = none) (hk : Ops (E.push { target := .fn (.func f) cs.toArray, args := #[] }) ops rest k V H) :
    Ops E ops (⟨none, .defer ⟨.value x, #[], #[]⟩, ty, pos, af, g⟩ :: rest) k V H := by
  intro a w r
  unfold wpListIn
  rw [if_pos (hw.wanted r)]
  have hf := r.fits
  obtain ⟨h1, h2, h3, o, hb, ht, hs⟩ := r
  have hrun : (execOp a.eval ⟨none, .defer ⟨.value x, #[], #[]⟩, ty, pos, af, g⟩).run E.P w = .ok (.defer { target := .fn (.func f) cs.toArray, args := #[] }) w := by
    simp [execOp, resolve, Deferred.ofValue, hf x _ hx]
  unfold Oper.wpIn
  refine ⟨fun _ _ => trivial, ?_⟩
  have hsem : Oper.semAt (FR E.r).round a.eval ⟨none, .defer ⟨.value x, #[], #[]⟩, ty, pos, af, g⟩ = execOp a.eval ⟨none, .defer ⟨.value x, #[], #[]⟩, ty, pos, af, g⟩ := by rw [hr0]; rfl
  rw [hsem, hrun, Oper.uponIn_defer]
  have := hk { a with defers := { target := .fn (.func f) cs.toArray, args := #[] } :: a.defers } w ⟨h1, fun h => (by cases h), h3, o, hb, ?_, hs⟩
  · rw [Qof_push] at this
    exact this
  · have hd := h2 hr
    rw [hd] at ht ⊢
    exact ⟨[], by simp [Env.push, h0], ht.tr, Marked.nil _ _ _⟩

/-- the marks are taken away, down to what the function itself has deferred -/
theorem leaves_marksD {P : Program} {w0 : World} {o0 : Own} {fn : Func} {tmps : Array Value} {R : Ending → World → Prop} {u : FrameMode} {H : List HA} {ds0 : List Deferred} (hu : u ≠ .run)
    (h : ∀ w' o, Bnd w' o → Tr w0 o0 w' o → Sats w' o H → LeavesInM (FR none) 0 P fn tmps R ds0 u w') : ∀ (ds : List Deferred) (w : World) (o : Own), Bnd w o → TrM w0 o0 ds w o → Sats w o H → LeavesInM (FR none) 0 P fn tmps R (ds ++ ds0) u w
  | [], w, o, hb, ht, hs => h w o hb ht.tr hs
  | d :: ds, w, o, hb, ht, hs => by
    obtain ⟨D, e, h1, h2, h3, h4⟩ := ht.mks.1 d (List.mem_cons_self ..)
    have hnd := List.nodup_cons.1 ht.mks.2
    refine ⟨hu, .inl ⟨D, w.putObj D (.deferred none), by rw [e], run_takeDeferred h4, ?_⟩⟩
    have hsz : (w.putObj D (.deferred none)).heap.size = w.heap.size := World.putObj_size
    have hot : ∀ b, o b ≠ .far → (w.putObj D (.deferred none)).heap[b]? = w.heap[b]? := fun b hb => World.putObj_heap_other (by rintro rfl; exact hb h3)
    refine leaves_marksD hu h ds _ o ?_ ?_ ?_
    · intro b hb'; exact hb b (by rwa [hsz] at hb')
    · refine ⟨⟨ht.tr.os, ht.tr.tape, ht.tr.output, by rw [hsz]; exact ht.tr.size, fun b hb' ho => ?_, fun b hb' ho => ?_⟩, fun d' hd' => ?_, hnd.2⟩
      · obtain ⟨f1, f2⟩ := ht.tr.no b hb' ho
        exact ⟨f1, (hot b (by rw [f1]; simp)).trans f2⟩
      · obtain ⟨f1, f2⟩ := ht.tr.far b hb' ho
        exact ⟨f1, (World.putObj_heap_other (by omega)).trans f2⟩
      · obtain ⟨D', e', g1, g2, g3, g4⟩ := ht.mks.1 d' (List.mem_cons_of_mem _ hd')
        refine ⟨D', e', g1, by rw [hsz]; exact g2, g3, (World.putObj_heap_other ?_).trans g4⟩
        rintro rfl
        exact hnd.1 (by rw [e, ← e']; exact hd')
    · intro j g hj
      exact g.keep (Nat.le_of_eq hsz.symm) (fun b _ hb' => ⟨hb', hot b (by rw [hb']; simp)⟩) (fun b _ hb' => ⟨hb', hot b (by rw [hb']; simp)⟩) (hs j g hj)
theorem run_invoke {P : Program} {f : FuncId} {cs : Array Value} (hcall : ∀ args w, (callFunc f args).run P w = .ok (.enter f args) w) (w : World) : (invoke (.fn (.func f) cs) #[]).run P w = .ok (.enter f cs) w := by
  simp [invoke, hcall]
/-- a deferred call, in the mode u of who leaves: what it makes of the mode and of memory -/
def RecD (P : Program) (f : FuncId) (cs : List Value) (u u' : FrameMode) (H H' : List HA) : Prop := ∀ w o, Bnd w o → Sats w o H →
  CallsDIn (FR none) 0 P f cs.toArray u w (fun e u2 w' => e = .returned (.tuple #[]) ∧ u2 = u' ∧ ∃ o', Bnd w' o' ∧ Tr w o w' o' ∧ Sats w' o' H')
section
variable {P : Program} {n : Nat} {w0 : World} {o0 : Own} {fn : Func} {post : Post} {f : FuncId} {cs : List Value}
/-- at the end: what was deferred does nothing -/
theorem fin_rec (hcall : ∀ args w, (callFunc f args).run P w = .ok (.enter f args) w) (hc : RecD P f cs .returning .returning H H) (h : Fin (EnvQ P n w0 o0 fn post) V H) : Fin ((EnvQ P n w0 o0 fn post).push { target := .fn (.func f) cs.toArray, args := #[] }) V H := by
  rintro a w ⟨h1, _, h3, o, hb, ⟨ms, hds, ht⟩, hs⟩
  show LeavesInM (FR none) 0 P fn a.tmps (Ends w0 o0 post) a.defers .returning w
  have hds' : a.defers = ms ++ [{ target := .fn (.func f) cs.toArray, args := #[] }] := by simpa [Env.push, EnvQ] using hds
  rw [hds']
  refine leaves_marksD (by simp) (fun w' o' hb' ht' hs' => ?_) ms w o hb ht hs
  refine ⟨by simp, .inr ⟨by simp [FR], _, _, _, _, rfl, run_invoke hcall w', fun _ _ => trivial, (hc w' o' hb' hs').mono ?_⟩⟩
  rintro e u w'' ⟨rfl, rfl, o'', hb'', ht'', hs''⟩
  exact h { a with defers := [] } w'' ⟨h1, fun _ => rfl, h3, o'', hb'', ⟨[], rfl, ht'.trans ht'', Marked.nil _ _ _⟩, hs''⟩
/-- at a panic: what was deferred recovers -/
theorem finP_rec {v : Value} {H' : List HA} (hcall : ∀ args w, (callFunc f args).run P w = .ok (.enter f args) w) (hc : RecD P f cs (.panicking [{ v := v, recovered := false }]) (.panicking [{ v := v, recovered := true }]) H H') (h : Fin (EnvQ P n w0 o0 fn post) V H') : FinP ((EnvQ P n w0 o0 fn post).push { target := .fn (.func f) cs.toArray, args := #[] }) V H v := by
  rintro a w ⟨h1, _, h3, o, hb, ⟨ms, hds, ht⟩, hs⟩
  show LeavesInM (FR none) 0 P fn a.tmps (Ends w0 o0 post) a.defers (.panicking [{ v := v, recovered := false }]) w
  have hds' : a.defers = ms ++ [{ target := .fn (.func f) cs.toArray, args := #[] }] := by simpa [Env.push, EnvQ] using hds
  rw [hds']
  refine leaves_marksD (by simp) (fun w' o' hb' ht' hs' => ?_) ms w o hb ht hs
  refine ⟨by simp, .inr ⟨by simp [FR], _, _, _, _, rfl, run_invoke hcall w', fun _ _ => trivial, (hc w' o' hb' hs').mono ?_⟩⟩
  rintro e u w'' ⟨rfl, rfl, o'', hb'', ht'', hs''⟩
  exact h { a with defers := [] } w'' ⟨h1, fun _ => rfl, h3, o'', hb'', ⟨[], rfl, ht'.trans ht'', Marked.nil _ _ _⟩, hs''⟩
theorem Rel.leavesQ {a : Act} {w : World} (r : Rel (EnvQ P n w0 o0 fn post) V H a w)
    (h : ∀ w' o, Bnd w' o → Tr w0 o0 w' o → Sats w' o H → ∃ v, (results fn a.tmps).run P w' = .ok v w' ∧ Ends w0 o0 post (.returned v) w') : (EnvQ P n w0 o0 fn post).B .ret a w := by
  obtain ⟨_, h2, _, o, hb, ⟨ms, hds, ht⟩, hs⟩ := r
  have hd := h2 rfl
  show LeavesInM (FR none) 0 P fn a.tmps (Ends w0 o0 post) a.defers .returning w
  rw [hd]
  exact h w o hb ht.tr hs
theorem fin_resQ (rs : List ResultVar) (vs : List Value) (is : List Nat) (G : List HA)
    (hr : fn.results = rs.toArray) (hl : rs.length = vs.length) (hv : ∀ (i : Nat) (r : ResultVar) (v : Value), rs[i]? = some r → vs[i]? = some v → ResIs P V H r v) (hn : is.Nodup) (hG : Picks is H G)
    (hp : post (tup vs) G) : Fin (EnvQ P n w0 o0 fn post) V H := by
  intro a w r
  exact r.leavesQ fun w' o hb ht hs => ⟨_, results_run r.2.2.1 hs rs vs hr hl hv, _, G, reown is o, rfl, hp, bnd_reown is hb, tr_reown' is ht, sats_pick hn hG.get hs⟩
end

/-! the body of a deferred call -/
def EnvS (P : Program) (n : Nat) (w0 : World) (o0 : Own) : Env :=
  { P := P, n := n, w0 := w0, o0 := o0, r := none, nd := true, B := fun _ _ _ => False, np := fun _ _ _ _ _ _ h => h, no := fun _ _ h => h }
def OpsS (E : Env) (ops : Array Oper) (l : List Nat) (Q : Exit → Act → List Frame → World → Prop) (cs : List Frame) (V : VF) (H : List HA) : Prop :=
  ∀ a w, Rel E V H a w → wpOpsSIn (FR none) 0 E.P ops Q l a cs w
def RunS (E : Env) (c : Code) (Q : Exit → Act → List Frame → World → Prop) (cs : List Frame) (V : VF) (H : List HA) : Prop :=
  ∀ a w, Rel E V H a w → c.wpSIn (FR none) 0 E.P Q a cs w
section
variable {Q : Exit → Act → List Frame → World → Prop} {cs : List Frame} {ops : Array Oper} {rest : List Nat}
theorem runS_seq {x y : Code} (h : RunS E x (Exit.thenS (y.wpSIn (FR none) 0 E.P Q) Q) cs V H) : RunS E (.seq x y) Q cs V H := fun a w r => wpSIn_seq (h a w r)
theorem runS_region {id : Nat} (l : List Nat) (hl : List.range ops.size = l) (h : OpsS E ops l Q cs V H) : RunS E (.region id ops false) Q cs V H := fun a w r => wpSIn_region (by rw [hl]; exact h a w r)
theorem opsS_next {y : Code} (h : RunS E y Q cs V H) : ∀ a w, Rel E V H a w → Exit.thenS (y.wpSIn (FR none) 0 E.P Q) Q .normal a cs w := h
theorem runS_cond {c : Operand} {x y : Code} (t : Bool) (hc : V.ev c = some (.bool t)) (h : RunS E (if t then x else y) Q cs V H) : RunS E (.cond c x y) Q cs V H :=
  fun a w r => wpSIn_cond (r.2.2.1.ev hc) (h a w r)
theorem runS_cond_t {c : Operand} {x y : Code} (hc : V.ev c = some (.bool true)) (h : RunS E x Q cs V H) : RunS E (.cond c x y) Q cs V H := runS_cond true hc h
theorem runS_cond_f {c : Operand} {x y : Code} (hc : V.ev c = some (.bool false)) (h : RunS E y Q cs V H) : RunS E (.cond c x y) Q cs V H := runS_cond false hc h
theorem runS_skip (h : ∀ a w, Rel E V H a w → Q .normal a cs w) : RunS E .skip Q cs V H := fun a w r => wpSIn_of_wpIn rfl (wpIn_skip (h a w r))
theorem opsS_nil (h : ∀ a w, Rel E V H a w → Q .normal a cs w) : OpsS E ops [] Q cs V H := fun a w r => h a w r
theorem opsS_y {i : Nat} {op : Oper} {v : Value} (hi : ops[i]? = some op) (hg : op.guard = none) (hd : inB E.n op.dst = true) (h : OpY E.P op V H v) (hk : OpsS E ops rest Q cs (V.put op.dst v) H) : OpsS E ops (i :: rest) Q cs V H := by
  intro a w r
  simp only [wpOpsSIn, hi]
  have hf := r.fits
  obtain ⟨h1, h2, h3, o, hb, ht, hs⟩ := r
  refine ⟨fun _ _ => trivial, ?_⟩
  rw [if_pos (by simp [Region.wanted, hg]), h a.eval w o hf hb hs]
  exact hk _ w (Rel.put h1 h2 h3 hd hb ht (Tr.refl w o) hs)
theorem opsS_recover {i : Nat} {d : Option Nat} {ty : TypeId} {pos : String} {af : Array Edge} {v : Value} {cs' : List Frame} (hi : ops[i]? = some ⟨d, .call ⟨.builtin .recover, #[], #[]⟩, ty, pos, af, none⟩) (hd : inB E.n d = true)
    (hr : (match recoverD cs with | some (v, cs') => (v, cs') | none => (Value.nilIface, cs)) = (v, cs')) (hk : OpsS E ops rest Q cs' (V.put d v) H) : OpsS E ops (i :: rest) Q cs V H := by
  intro a w r
  simp only [wpOpsSIn, hi]
  obtain ⟨h1, h2, h3, o, hb, ht, hs⟩ := r
  refine ⟨fun _ _ => trivial, ?_⟩
  rw [if_pos (by simp [Region.wanted])]
  have hrun : (execOp a.eval ⟨d, .call ⟨.builtin .recover, #[], #[]⟩, ty, pos, af, none⟩).run E.P w = .ok .recover w := by
    simp [execOp, resolve, invoke, builtin]
  rw [hrun]
  have := hk _ w (Rel.put (d := d) (v := v) h1 h2 h3 hd hb ht (Tr.refl w o) hs)
  cases hc : recoverD cs with
  | none => rw [hc] at hr; simp at hr; obtain ⟨rfl, rfl⟩ := hr; exact this
  | some p => obtain ⟨v1, c1⟩ := p; rw [hc] at hr; simp at hr; obtain ⟨rfl, rfl⟩ := hr; exact this
end
section
variable {P : Program} {f : FuncId} {fn : Func} {c : Code} {cs : List Value} {n : Nat}
/-- the contract of a deferred call -/
theorem recD_of {u u' : FrameMode} {H H' : List HA} (hf : P.funcs[f]? = some fn) (hb : fn.body = some c) (hm : fn.ntmps = n) (hn : Nat.ble cs.length n = true)
    (h : ∀ (w0 : World) (o0 : Own) (c0 : Frame) (cf : List Frame), c0.mode = u →
      RunS (EnvS P n w0 o0) c (bodyPostS P fn c0 cf (fun e u2 w' => e = .returned (.tuple #[]) ∧ u2 = u' ∧ ∃ o', Bnd w' o' ∧ Tr w0 o0 w' o' ∧ Sats w' o' H')) (c0 :: cf) (VF.args cs 0) H) : RecD P f cs u u' H H' := by
  intro w o hbd hs
  refine callsDIn_of_wpSIn hf hb trivial fun c0 cf hu => ?_
  refine h w o c0 cf hu _ _ ⟨?_, (fun _ => rfl), ?_, o, hbd, TrD.of (TrM.refl w o) rfl, hs⟩
  · have := Nat.le_of_ble_eq_true hn
    simp [hm, EnvS]; omega
  · intro t v hv
    obtain ⟨_, h2⟩ := VF.args_get cs 0 t v hv
    exact getD_append_left v (by simpa using h2)
theorem leafS {w0 : World} {o0 : Own} {u' : FrameMode} {c0 : Frame} {cf cs' : List Frame} {H' : List HA} {V : VF} (hr : fn.results = #[]) (hcs : cs' = { c0 with mode := u' } :: cf) :
    ∀ a w, Rel (EnvS P n w0 o0) V H' a w → bodyPostS P fn c0 cf (fun e u2 w' => e = .returned (.tuple #[]) ∧ u2 = u' ∧ ∃ o', Bnd w' o' ∧ Tr w0 o0 w' o' ∧ Sats w' o' H') .normal a cs' w := by
  rintro a w ⟨h1, h2, h3, o, hb, ht, hs⟩
  refine ⟨h2 rfl, u', hcs, _, ?_, rfl, rfl, o, hb, ht.tr, hs⟩
  unfold results
  rw [hr]
  simp
theorem mode_same {c0 : Frame} {u : FrameMode} (h : c0.mode = u) : c0 = { c0 with mode := u } := by
  subst h; rfl
end
end Go.Abs
namespace Go.Abs
variable {E : Env} {k : List KI} {V : VF} {H : List HA}
/-- the same, where nothing may go wrong -/
def Env.calm (E : Env) : Env := { E with B := fun _ _ _ => False, blind := true, np := fun _ _ _ _ _ _ h => h, no := fun _ _ h => h }
theorem run_calm {c : Code} (h : ∀ L : Act → World → Prop, (∀ V' H', Goes E k V' H' → ∀ a w, Rel E V' H' a w → L a w) → Run E.calm c [.loop L] V H) : Run E c k V H := by
  intro a w r
  refine wpIn_mono (h (fun a w => Qof E k .normal a w) (fun V' H' hg a w r => hg a w r) a w r) ?_
  intro e a w hq
  cases e with
  | normal => exact hq
  | exit id => exact hq.elim
  | goto l => exact hq.elim
  | ret => exact hq.elim
  | panic ch => exact hq.elim
  | outgrown => exact hq.elim
theorem goes_calm {L : Act → World → Prop} (hL : ∀ V' H', Goes E k V' H' → ∀ a w, Rel E V' H' a w → L a w) (h : Goes E k V H) : Goes E.calm [.loop L] V H := fun a w r => hL V H h a w r
theorem runS_of {Q : Exit → Act → List Frame → World → Prop} {cs : List Frame} {c : Code} (h : ∀ L : Act → World → Prop, (∀ V' H', (∀ a w, Rel E V' H' a w → Q .normal a cs w) → ∀ a w, Rel E V' H' a w → L a w) → Run E.calm c [.loop L] V H) (hr : E.r = none := by exact rfl) : RunS E c Q cs V H := by
  intro a w r
  refine wpSIn_of_wpIn rfl ?_
  have := h (fun a w => Q .normal a cs w) (fun V' H' hg a w r => hg a w r) a w r
  rw [show (FR E.calm.r) = FR none from congrArg FR hr] at this
  refine wpIn_mono this ?_
  intro e a w hq
  cases e with
  | normal => exact hq
  | exit id => exact hq.elim
  | goto l => exact hq.elim
  | ret => exact hq.elim
  | panic ch => exact hq.elim
  | outgrown => exact hq.elim
end Go.Abs
namespace Go.Abs
open Go.RowKit Go.Sort
/-! plain functions -/
def decF : Nat → Nat → List UInt8
  | 0, _ => []
  | k + 1, u => if u < 10 then [UInt8.ofNat (48 + u)] else decF k (u / 10) ++ [UInt8.ofNat (48 + u % 10)]
theorem decF_eq : ∀ k u, u < 10 ^ (k + 1) → decF (k + 1) u = Lib.decDigits u
  | 0, u, h => by
    have h' : u < 10 := by simpa using h
    rw [decF, if_pos h', Lib.decDigits, dif_pos h']
  | k + 1, u, h => by
    rw [decF, Lib.decDigits]
    by_cases h' : u < 10
    · rw [if_pos h', dif_pos h']
    · rw [if_neg h', dif_neg h', decF_eq k (u / 10) (by rw [Nat.pow_succ] at h; omega)]
def itoaP (n : Int) : List UInt8 := if n < 0 then 45 :: decF 20 n.natAbs else decF 20 n.toNat
theorem itoaP_eq {n : Int} (h0 : -9223372036854775808 ≤ n) (h1 : n ≤ 9223372036854775807) : Lib.itoa n = itoaP n := by
  unfold Lib.itoa itoaP
  split
  · rw [decF_eq 19 _ (Nat.lt_trans (show n.natAbs < 9223372036854775809 by omega) (by decide))]
  · rw [decF_eq 19 _ (Nat.lt_trans (show n.toNat < 9223372036854775808 by omega) (by decide))]
def idxN (c : UInt8) : List UInt8 → Option Nat
  | [] => none
  | b :: l => if b == c then some 0 else (idxN c l).map (· + 1)
def idxP (l : List UInt8) (c : UInt8) : Int := match idxN c l with | some n => n | none => -1
theorem idxP_eq (c : UInt8) : ∀ l, Lib.indexByte l c = idxP l c
  | [] => rfl
  | b :: l => by
    unfold Lib.indexByte idxP idxN
    rw [idxP_eq c l]
    unfold idxP
    by_cases h : (b == c) = true
    · simp [h]
    · simp only [h]
      cases hn : idxN c l with
      | none => simp
      | some n => simp [show ¬ ((n : Int) = -1) by omega]
def splitP (c : UInt8) : List UInt8 → List (List UInt8)
  | [] => [[]]
  | b :: r => if b == c then [] :: splitP c r else match splitP c r with
    | [] => [[b]]
    | x :: xs => (b :: x) :: xs
theorem splitP_miss (c : UInt8) : ∀ l, idxN c l = none → splitP c l = [l]
  | [], _ => rfl
  | b :: r, h => by
    unfold idxN at h
    split at h
    · cases h
    · rename_i hb
      unfold splitP
      rw [if_neg hb, splitP_miss c r (by simpa using h)]
theorem splitP_hit (c : UInt8) : ∀ l i, idxN c l = some i → splitP c l = l.take i :: splitP c (l.drop (i + 1)) ∧ i < l.length
  | [], _, h => by simp [idxN] at h
  | b :: r, i, h => by
    unfold idxN at h
    split at h
    · rename_i hb
      obtain rfl : 0 = i := by simpa using h
      refine ⟨?_, by simp⟩
      conv => lhs; unfold splitP
      rw [if_pos hb]; simp
    · rename_i hb
      cases hn : idxN c r with
      | none => rw [hn] at h; simp at h
      | some j =>
        rw [hn] at h
        obtain rfl : j + 1 = i := by simpa using h
        obtain ⟨e, hl⟩ := splitP_hit c r j hn
        refine ⟨?_, by simpa using hl⟩
        conv => lhs; unfold splitP
        rw [if_neg hb, e]; simp
theorem splitB_eq (c : UInt8) : ∀ (n : Nat) (l : List UInt8), l.length ≤ n → Lib.splitB (bs [c]) 0 (Lib.countB (bs l) (bs [c])) (bs l) = (splitP c l).map bs ∧ Lib.countB (bs l) (bs [c]) + 1 = (splitP c l).length := by
  intro n
  induction n with
  | zero =>
    intro l h
    obtain rfl : l = [] := List.length_eq_zero_iff.1 (by omega)
    have h1 : Lib.indexB (bs []) (bs [c]) = -1 := by
      show Lib.index [] [c] = -1
      rw [Lib.index_one]; rfl
    rw [Lib.countB_miss _ _ h1]
    exact ⟨rfl, rfl⟩
  | succ n ih =>
    intro l h
    have h1 : Lib.indexB (bs l) (bs [c]) = idxP l c := by
      show Lib.index l [c] = _
      rw [Lib.index_one, idxP_eq]
    cases hn : idxN c l with
    | none =>
      have h2 : Lib.indexB (bs l) (bs [c]) = -1 := by rw [h1]; simp [idxP, hn]
      rw [Lib.countB_miss _ _ h2, splitP_miss c l hn]
      exact ⟨rfl, rfl⟩
    | some i =>
      have h2 : Lib.indexB (bs l) (bs [c]) = i := by rw [h1]; simp [idxP, hn]
      obtain ⟨e, hl⟩ := splitP_hit c l i hn
      have hx : (bs l).extract (i + (bs [c]).size) (bs l).size = bs (l.drop (i + 1)) := by
        apply ByteArray.ext
        simp [bs, ByteArray.size, ByteArray.data_extract, List.take_of_length_le]
      have hy : (bs l).extract 0 (i + 0) = bs (l.take i) := by
        apply ByteArray.ext
        simp [bs, ByteArray.data_extract]
      rw [Lib.countB_hit _ _ i (by simp [bs, ByteArray.size]) h2, Nat.add_comm 1, Lib.splitB_hit _ _ _ _ i h2, hx, hy, e]
      obtain ⟨a1, a2⟩ := ih (l.drop (i + 1)) (by simp; omega)
      rw [a1]
      refine ⟨by simp, ?_⟩
      simp only [List.length_cons]
      omega
def atoiP (l : List UInt8) : Int × Bool := match Lib.atoiAll l with
  | .ok v => (v, true)
  | .range => (Lib.atoiSat l, false)
  | _ => (0, false)
def joinP (l : List (List UInt8)) (sep : List UInt8) : List UInt8 := sep.intercalate l

/-! what the contracts ask of the program's variables -/
structure GlobIs (P : Program) (N : Nat) (w : World) : Prop where
  maxLen : ∃ g m, P.globalNamed "internal/bytealg.MaxLen" = some g ∧ g < N ∧ w.cell? ⟨g, 0, none⟩ = some (.int .i64 m)
  errSyntax : ∃ g t p, P.globalNamed "strconv.ErrSyntax" = some g ∧ g < N ∧ w.cell? ⟨g, 0, none⟩ = some (.iface t p)
  errRange : ∃ g t p, P.globalNamed "strconv.ErrRange" = some g ∧ g < N ∧ w.cell? ⟨g, 0, none⟩ = some (.iface t p)
  pow10 : ∃ g, P.globalNamed "internal/strconv.uint64pow10" = some g ∧ g < N ∧ Lib.TabIs P w "internal/strconv.uint64pow10" .u64 Lib.pow10Tab
def glob (P : Program) (N : Nat) : HA :=
  ⟨fun w o _ => N ≤ w.heap.size ∧ (∀ b, b < N → o b = .no) ∧ GlobIs P N w, fun {w w' o o' k k'} hs _ h2 h => by
    obtain ⟨a1, a2, a3⟩ := h
    have hb : ∀ b, b < N → w'.heap[b]? = w.heap[b]? := fun b hb => (h2 b (by omega) (a2 b hb)).2
    refine ⟨by omega, fun b hb => (h2 b (by omega) (a2 b hb)).1, ?_⟩
    obtain ⟨⟨g1, m, e1, l1, f1⟩, ⟨g2, t2, p2, e2, l2, f2⟩, ⟨g3, t3, p3, e3, l3, f3⟩, ⟨g4, e4, l4, f4⟩⟩ := a3
    refine ⟨⟨g1, m, e1, l1, by rw [cell_of_block (hb g1 l1)]; exact f1⟩, ⟨g2, t2, p2, e2, l2, by rw [cell_of_block (hb g2 l2)]; exact f2⟩, ⟨g3, t3, p3, e3, l3, by rw [cell_of_block (hb g3 l3)]; exact f3⟩, ⟨g4, e4, l4, ?_⟩⟩
    unfold Lib.TabIs World.var? at f4 ⊢
    rw [e4] at f4 ⊢
    simp only [Option.bind_some] at f4 ⊢
    rw [hb g4 l4]; exact f4⟩
theorem free_glob {P : Program} {N : Nat} : Free (glob P N) := fun _ _ _ _ _ ho h => ⟨h.1, fun b hb => ho b (Nat.lt_of_lt_of_le hb h.1) (h.2.1 b hb), h.2.2⟩
theorem views_glob {P : Program} {N : Nat} : Views (glob P N) (glob P N) false := views_free free_glob
/-- an interface value of which only is known whether it is nil -/
def oif (v : Value) (b : Bool) : HA := ⟨fun _ _ _ => (v = .nilIface ∧ b = true) ∨ ((∃ T x, v = .iface T x) ∧ b = false), fun _ _ _ h => h⟩
theorem tr_below {w w' : World} {o : Own} (h : Below w.heap.size w w') : Tr w o w' o :=
  ⟨h.os, h.tape, h.output, h.size, fun b hb ho => ⟨ho, h.block b hb⟩, fun b hb ho => ⟨ho, h.block b hb⟩⟩
theorem bnd_below {w w' : World} {o : Own} (hb : Bnd w o) (h : Below w.heap.size w w') : Bnd w' o := fun b hle => hb b (Nat.le_trans h.size hle)
theorem ends_below {w w' : World} {o : Own} {post : Post} {v : Value} {G : List HA} (hb : Bnd w o) (h : Below w.heap.size w w') (hp : post v G) (hs : Sats w' o G) : Ends w o post (.returned v) w' :=
  ⟨v, G, o, rfl, hp, bnd_below hb h, tr_below h, hs⟩
theorem sats_nil {w : World} {o : Own} : Sats w o [] := fun j h hj => by simp at hj
theorem below_grow (w : World) (k : Nat) (os : Array Obj) : Below w.heap.size w (grow (w.drewN k) os) :=
  ⟨rfl, rfl, rfl, by simp [grow, World.drewN], fun b hb => by
    show (w.heap ++ os)[b]? = w.heap[b]?
    rw [Array.getElem?_append_left hb]⟩
end Go.Abs
namespace Go.Abs
section
variable {P : Program} {V : VF} {H : List HA} {d : Option Nat} {ty : TypeId} {pos : String} {af : Array Edge} {g : Option (Nat × Bool)}
theorem run_eq_nilIface {T : TypeId} {ms : Array (String × TypeId)} (hu : ∀ w, (underlying T).run P w = .ok (.interface ms) w) (v : Value) (b : Bool) (h : (v = .nilIface ∧ b = true) ∨ ((∃ T x, v = .iface T x) ∧ b = false)) (w : World) : (Op.equal T v .nilIface).run P w = .ok b w := by
  have h0 : ∀ (n : Nat), (Op.equalIn (n + 1) T v .nilIface).run P w = .ok b w := by
    intro n
    rcases h with ⟨rfl, rfl⟩ | ⟨⟨t, x, rfl⟩, rfl⟩ <;> simp [Op.equalIn, hu]
  exact h0 9999
theorem y_ifeq {T U : TypeId} {x : Operand} {v : Value} {b : Bool} {ms : Array (String × TypeId)} (hu : ∀ w, (underlying T).run P w = .ok (.interface ms) w) (hx : V.ev x = some v) (h : (v = .nilIface ∧ b = true) ∨ ((∃ T x, v = .iface T x) ∧ b = false)) :
    OpY P ⟨d, .binOp .eql T x (.const .nilIface) U, ty, pos, af, g⟩ V H (.bool b) := by
  intro ρ w o hf _ _
  have h1 := run_eq_nilIface hu v b h
  have h2 : ρ (.const .nilIface) = .nilIface := hf _ _ rfl
  have hx' := hf x v hx
  rcases h with ⟨rfl, rfl⟩ | ⟨⟨t, y, rfl⟩, rfl⟩ <;> simp [execOp, hx', h2, eqGuard, binOp, h1]
theorem y_ifne {T U : TypeId} {x : Operand} {v : Value} {b : Bool} {ms : Array (String × TypeId)} (hu : ∀ w, (underlying T).run P w = .ok (.interface ms) w) (hx : V.ev x = some v) (h : (v = .nilIface ∧ b = true) ∨ ((∃ T x, v = .iface T x) ∧ b = false)) :
    OpY P ⟨d, .binOp .neq T x (.const .nilIface) U, ty, pos, af, g⟩ V H (.bool (!b)) := by
  intro ρ w o hf _ _
  have h1 := run_eq_nilIface hu v b h
  have h2 : ρ (.const .nilIface) = .nilIface := hf _ _ rfl
  have hx' := hf x v hx
  rcases h with ⟨rfl, rfl⟩ | ⟨⟨t, y, rfl⟩, rfl⟩ <;> simp [execOp, hx', h2, eqGuard, binOp, h1]
theorem y_oif {T U : TypeId} {x : Operand} {v : Value} {b : Bool} {ms : Array (String × TypeId)} (m : Nat) (hm : H[m]? = some (oif v b)) (hu : ∀ w, (underlying T).run P w = .ok (.interface ms) w) (hx : V.ev x = some v) :
    OpY P ⟨d, .binOp .eql T x (.const .nilIface) U, ty, pos, af, g⟩ V H (.bool b) := fun ρ w o hf hb hs => y_ifeq hu hx (hs m _ hm) ρ w o hf hb hs
end
end Go.Abs
namespace Go.Proofs
open Go.Shelf
def Tryd.lays156_ren : Go.Shelf.Ren := ⟨fun | 156 => 51 | 165 => 58 | 166 => 59 | 169 => 60 | 240 => 69 | 241 => 70 | 276 => 85 | 277 => 86 | n => n, fun | 31 => 66 | 9 => 9 | 3 => 3 | 4 => 4 | 0 => 0 | 20 => 20 | 72 => 94 | 76 => 88 | 70 => 92 | 37 => 82 | 75 => 87 | 127 => 102 | 164 => 117 | 5 => 5 | 80 => 96 | n => n, fun | n => n⟩
theorem Tryd.lays156 : Go.Proofs.Lays.n156 Tryd.prog Tryd.lays156_ren := {
  mixed := by kernel_rfl
  f156 := Tryd.func51.trans (congrArg some (by kernel_rfl))
  f165 := Tryd.func58.trans (congrArg some (by kernel_rfl))
  f166 := Tryd.func59.trans (congrArg some (by kernel_rfl))
  f169 := Tryd.func60.trans (congrArg some (by kernel_rfl))
  f240 := Tryd.func69.trans (congrArg some (by kernel_rfl))
  f241 := Tryd.func70.trans (congrArg some (by kernel_rfl))
  f276 := Tryd.func85.trans (congrArg some (by kernel_rfl))
  f277 := Tryd.func86.trans (congrArg some (by kernel_rfl))
  t0 := Tryd.underlying0
  a0 := Tryd.isAgg0
  z0 := Tryd.sizeOf0
  v0 := Tryd.zeroValue0
  t3 := Tryd.underlying3
  a3 := Tryd.isAgg3
  z3 := Tryd.sizeOf3
  v3 := Tryd.zeroValue3
  t4 := Tryd.underlying4
  a4 := Tryd.isAgg4
  z4 := Tryd.sizeOf4
  v4 := Tryd.zeroValue4
  t9 := Tryd.underlying9
  a9 := Tryd.isAgg9
  z9 := Tryd.sizeOf9
  v9 := Tryd.zeroValue9
  t20 := Tryd.underlying20
  a20 := Tryd.isAgg20
  z20 := Tryd.sizeOf20
  v20 := Tryd.zeroValue20
  t31 := Tryd.underlying66
  a31 := Tryd.isAgg66
  z31 := Tryd.sizeOf66
  v31 := Tryd.zeroValue66
  t37 := Tryd.underlying82
  a37 := Tryd.isAgg82
  z37 := Tryd.sizeOf82
  v37 := Tryd.zeroValue82
  t70 := Tryd.underlying92
  a70 := Tryd.isAgg92
  z70 := Tryd.sizeOf92
  v70 := Tryd.zeroValue92
  t72 := Tryd.underlying94
  a72 := Tryd.isAgg94
  z72 := Tryd.sizeOf94
  v72 := Tryd.zeroValue94
  t75 := Tryd.underlying87
  a75 := Tryd.isAgg87
  z75 := Tryd.sizeOf87
  v75 := Tryd.zeroValue87
  t76 := Tryd.underlying88
  a76 := Tryd.isAgg88
  z76 := Tryd.sizeOf88
  v76 := Tryd.zeroValue88
  t127 := Tryd.underlying102
  a127 := Tryd.isAgg102
  z127 := Tryd.sizeOf102
  v127 := Tryd.zeroValue102
  t164 := Tryd.underlying117
  a164 := Tryd.isAgg117
  z164 := Tryd.sizeOf117
  v164 := Tryd.zeroValue117 }
theorem Tryd.Builder_Extra_156 : Builder.Extra Tryd.prog Tryd.lays156_ren := {
  sizeBuilder := by kernel_rfl
  liesBuilder := by kernel_rfl
  t5 := Tryd.underlying5
  a5 := Tryd.isAgg5
  z5 := Tryd.sizeOf5
  v5 := Tryd.zeroValue5
  infoByte := by kernel_rfl
  cellsByte := by kernel_rfl
  sizeByte := by kernel_rfl
  neB5 := by decide }
open Go.RowKit in
/-- strings.Join: "Join concatenates the elements of its first argument to create a single string. The separator string sep is placed between elements in the resulting string.": HOWEVER MANY ELEMENTS. Below the heap's end the world is as it was. (LAID: no walk: one application.) -/
theorem Tryd.strings_Join (bk o c : Nat) (xs : List ByteArray) (sep : ByteArray) (w : World) (hcells : ∀ (j : Nat) x, xs[j]? = some x → w.cell? ⟨bk, o + j, none⟩ = some (.string x)) (hbk : bk < w.heap.size) (hN : xs.length ≤ 140737488355328) (hcap : xs.length ≤ c) (hlen : (Lib.join (xs.map (·.data.toList)) sep.data.toList).length ≤ 140737488355328) :
    Calls Tryd.prog 51 #[.slice (some ⟨bk, o, none⟩) xs.length c, .string sep] w fun e w' => e = .returned (.string ⟨(Lib.join (xs.map (·.data.toList)) sep.data.toList).toArray⟩) ∧ Below w.heap.size w w' := Any.strings_Join Tryd.lays156 Tryd.Builder_Extra_156 bk o c xs sep w hcells hbk hN hcap hlen
def Tryd.lays137_ren : Go.Shelf.Ren := ⟨fun | 137 => 55 | 217 => 67 | 266 => 80 | n => n, fun | 9 => 9 | 5 => 5 | 3 => 3 | n => n, fun | n => n⟩
theorem Tryd.lays137 : Go.Proofs.Lays.n137 Tryd.prog Tryd.lays137_ren := {
  mixed := by kernel_rfl
  f137 := Tryd.func55.trans (congrArg some (by kernel_rfl))
  f217 := Tryd.func67.trans (congrArg some (by kernel_rfl))
  f266 := Tryd.func80.trans (congrArg some (by kernel_rfl))
  t3 := Tryd.underlying3
  a3 := Tryd.isAgg3
  z3 := Tryd.sizeOf3
  v3 := Tryd.zeroValue3
  t5 := Tryd.underlying5
  a5 := Tryd.isAgg5
  z5 := Tryd.sizeOf5
  v5 := Tryd.zeroValue5
  t9 := Tryd.underlying9
  a9 := Tryd.isAgg9
  z9 := Tryd.sizeOf9
  v9 := Tryd.zeroValue9 }
open Go.RowKit in
/-- strings.IndexByte: "IndexByte returns the index of the first instance of c in s, or -1 if c is not present in s.": IT RETURNS 'Lib.indexByte s c'; the world is as it was. (LAID: no walk: one application.) -/
theorem Tryd.strings_IndexByte (s : ByteArray) (c : Int) (w : World) :
    Calls Tryd.prog 55 #[.string s, .int .u8 c] w fun e w' => e = .returned (.int .i64 (Lib.indexByte s.data.toList c.toNat.toUInt8)) ∧ w' = w := Any.strings_IndexByte Tryd.lays137 s c w
def Tryd.laysM171_ren : Go.Shelf.Ren := ⟨fun | 171 => 50 | 243 => 57 | 246 => 68 | 283 => 81 | 284 => 82 | 285 => 83 | 286 => 84 | 129 => 95 | 317 => 94 | 318 => 96 | 319 => 97 | 320 => 98 | 337 => 102 | 338 => 103 | n => n, fun | 3 => 3 | 9 => 9 | 2 => 2 | 4 => 4 | 171 => 111 | 0 => 0 | 53 => 112 | 37 => 82 | 5 => 5 | 173 => 115 | 212 => 127 | 51 => 128 | 20 => 20 | 213 => 129 | 46 => 83 | 232 => 142 | 233 => 143 | n => n, fun | 17 => 3 | 18 => 6 | 19 => 7 | n => n⟩
theorem Tryd.laysM171 : Go.Proofs.LaysM.n171 Tryd.prog Tryd.laysM171_ren := {
  mixed := by kernel_rfl
  f129 := Tryd.func95.trans (congrArg some (by kernel_rfl))
  f171 := Tryd.func50.trans (congrArg some (by kernel_rfl))
  f243 := Tryd.func57.trans (congrArg some (by kernel_rfl))
  f246 := Tryd.func68.trans (congrArg some (by kernel_rfl))
  f283 := Tryd.func81.trans (congrArg some (by kernel_rfl))
  f284 := Tryd.func82.trans (congrArg some (by kernel_rfl))
  f285 := Tryd.func83.trans (congrArg some (by kernel_rfl))
  f286 := Tryd.func84.trans (congrArg some (by kernel_rfl))
  f317 := Tryd.func94.trans (congrArg some (by kernel_rfl))
  f318 := Tryd.func96.trans (congrArg some (by kernel_rfl))
  f319 := Tryd.func97.trans (congrArg some (by kernel_rfl))
  f320 := Tryd.func98.trans (congrArg some (by kernel_rfl))
  f337 := Tryd.func102.trans (congrArg some (by kernel_rfl))
  f338 := Tryd.func103.trans (congrArg some (by kernel_rfl))
  t0 := Tryd.underlying0
  a0 := Tryd.isAgg0
  z0 := Tryd.sizeOf0
  v0 := Tryd.zeroValue0
  t2 := Tryd.underlying2
  a2 := Tryd.isAgg2
  z2 := Tryd.sizeOf2
  v2 := Tryd.zeroValue2
  t3 := Tryd.underlying3
  a3 := Tryd.isAgg3
  z3 := Tryd.sizeOf3
  v3 := Tryd.zeroValue3
  t4 := Tryd.underlying4
  a4 := Tryd.isAgg4
  z4 := Tryd.sizeOf4
  v4 := Tryd.zeroValue4
  t5 := Tryd.underlying5
  a5 := Tryd.isAgg5
  z5 := Tryd.sizeOf5
  v5 := Tryd.zeroValue5
  t9 := Tryd.underlying9
  a9 := Tryd.isAgg9
  z9 := Tryd.sizeOf9
  v9 := Tryd.zeroValue9
  t20 := Tryd.underlying20
  a20 := Tryd.isAgg20
  z20 := Tryd.sizeOf20
  v20 := Tryd.zeroValue20
  t37 := Tryd.underlying82
  a37 := Tryd.isAgg82
  z37 := Tryd.sizeOf82
  v37 := Tryd.zeroValue82
  t46 := Tryd.underlying83
  a46 := Tryd.isAgg83
  z46 := Tryd.sizeOf83
  v46 := Tryd.zeroValue83
  t51 := Tryd.underlying128
  a51 := Tryd.isAgg128
  z51 := Tryd.sizeOf128
  v51 := Tryd.zeroValue128
  t53 := Tryd.underlying112
  a53 := Tryd.isAgg112
  z53 := Tryd.sizeOf112
  v53 := Tryd.zeroValue112
  t171 := Tryd.underlying111
  a171 := Tryd.isAgg111
  z171 := Tryd.sizeOf111
  v171 := Tryd.zeroValue111
  t173 := Tryd.underlying115
  a173 := Tryd.isAgg115
  z173 := Tryd.sizeOf115
  v173 := Tryd.zeroValue115
  t212 := Tryd.underlying127
  a212 := Tryd.isAgg127
  z212 := Tryd.sizeOf127
  v212 := Tryd.zeroValue127
  t213 := Tryd.underlying129
  a213 := Tryd.isAgg129
  z213 := Tryd.sizeOf129
  t232 := Tryd.underlying142
  a232 := Tryd.isAgg142
  z232 := Tryd.sizeOf142
  v232 := Tryd.zeroValue142
  t233 := Tryd.underlying143
  a233 := Tryd.isAgg143
  z233 := Tryd.sizeOf143
  v233 := Tryd.zeroValue143
  g17 := by kernel_rfl
  g18 := by kernel_rfl
  g19 := by kernel_rfl
  i0 := by kernel_rfl
  i2 := by kernel_rfl
  i3 := by kernel_rfl
  i4 := by kernel_rfl
  i5 := by kernel_rfl
  i9 := by kernel_rfl
  i20 := by kernel_rfl
  i37 := by kernel_rfl
  i46 := by kernel_rfl
  i51 := by kernel_rfl
  i53 := by kernel_rfl
  i171 := by kernel_rfl
  i173 := by kernel_rfl
  i212 := by kernel_rfl
  i232 := by kernel_rfl
  i233 := by kernel_rfl
  m17 := by kernel_rfl
  m18 := by kernel_rfl
  m19 := by kernel_rfl }
open Go.RowKit Go.Sort Go.Lib in
/-- strconv.Itoa: "Itoa is equivalent to FormatInt(int64(i), 10).": i's DECIMAL NUMERAL ('Lib.itoa': a '-' where i is negative, then the digits), FOR EVERY int. The world behind the call: the world before it, new blocks behind the heap (the library's 'var a [24]byte'), draws. (LAID: no walk: one application.) -/
theorem Tryd.strconv_Itoa (n : Int) (h0 : -9223372036854775808 ≤ n) (h1 : n ≤ 9223372036854775807) (w : World) (htab : Lib.TabIs Tryd.prog w "internal/strconv.uint64pow10" .u64 Lib.pow10Tab) :
    Calls Tryd.prog 50 #[.int .i64 n] w fun e w' => e = .returned (.string ⟨(Lib.itoa n).toArray⟩) ∧ ∃ k os, w' = grow (w.drewN k) os := Any.strconv_Itoa Tryd.laysM171 n h0 h1 w htab
def Tryd.laysC172_ren : Go.Shelf.Ren := ⟨fun | 172 => 54 | 244 => 65 | 245 => 66 | 247 => 75 | 279 => 76 | 280 => 77 | 281 => 78 | 282 => 79 | 287 => 91 | 316 => 92 | 171 => 50 | 205 => 93 | 321 => 100 | 322 => 101 | 243 => 57 | 246 => 68 | 283 => 81 | 284 => 82 | 285 => 83 | 286 => 84 | 129 => 95 | 317 => 94 | 318 => 96 | 319 => 97 | 320 => 98 | 337 => 102 | 338 => 103 | n => n, fun | 9 => 9 | 3 => 3 | 75 => 87 | 76 => 88 | 4 => 4 | 5 => 5 | 167 => 105 | 37 => 82 | 0 => 0 | 85 => 106 | 2 => 2 | 168 => 108 | 53 => 112 | 175 => 120 | 46 => 83 | 210 => 124 | 127 => 102 | 145 => 140 | 143 => 138 | 21 => 21 | 171 => 111 | 173 => 115 | 212 => 127 | 51 => 128 | 20 => 20 | 213 => 129 | 232 => 142 | 233 => 143 | 80 => 96 | n => n, fun | 15 => 1 | 16 => 2 | 17 => 3 | 18 => 6 | 19 => 7 | n => n⟩
theorem Tryd.laysC172 : Go.Proofs.LaysC.n172 Tryd.prog Tryd.laysC172_ren := {
  mixed := by kernel_rfl
  f129 := Tryd.func95.trans (congrArg some (by kernel_rfl))
  f171 := Tryd.func50.trans (congrArg some (by kernel_rfl))
  f172 := Tryd.func54.trans (congrArg some (by kernel_rfl))
  f205 := Tryd.func93.trans (congrArg some (by kernel_rfl))
  f243 := Tryd.func57.trans (congrArg some (by kernel_rfl))
  f244 := Tryd.func65.trans (congrArg some (by kernel_rfl))
  f245 := Tryd.func66.trans (congrArg some (by kernel_rfl))
  f246 := Tryd.func68.trans (congrArg some (by kernel_rfl))
  f247 := Tryd.func75.trans (congrArg some (by kernel_rfl))
  f279 := Tryd.func76.trans (congrArg some (by kernel_rfl))
  f280 := Tryd.func77.trans (congrArg some (by kernel_rfl))
  f281 := Tryd.func78.trans (congrArg some (by kernel_rfl))
  f282 := Tryd.func79.trans (congrArg some (by kernel_rfl))
  f283 := Tryd.func81.trans (congrArg some (by kernel_rfl))
  f284 := Tryd.func82.trans (congrArg some (by kernel_rfl))
  f285 := Tryd.func83.trans (congrArg some (by kernel_rfl))
  f286 := Tryd.func84.trans (congrArg some (by kernel_rfl))
  f287 := Tryd.func91.trans (congrArg some (by kernel_rfl))
  f316 := Tryd.func92.trans (congrArg some (by kernel_rfl))
  f317 := Tryd.func94.trans (congrArg some (by kernel_rfl))
  f318 := Tryd.func96.trans (congrArg some (by kernel_rfl))
  f319 := Tryd.func97.trans (congrArg some (by kernel_rfl))
  f320 := Tryd.func98.trans (congrArg some (by kernel_rfl))
  f321 := Tryd.func100.trans (congrArg some (by kernel_rfl))
  f322 := Tryd.func101.trans (congrArg some (by kernel_rfl))
  f337 := Tryd.func102.trans (congrArg some (by kernel_rfl))
  f338 := Tryd.func103.trans (congrArg some (by kernel_rfl))
  t0 := Tryd.underlying0
  a0 := Tryd.isAgg0
  z0 := Tryd.sizeOf0
  v0 := Tryd.zeroValue0
  t2 := Tryd.underlying2
  a2 := Tryd.isAgg2
  z2 := Tryd.sizeOf2
  v2 := Tryd.zeroValue2
  t3 := Tryd.underlying3
  a3 := Tryd.isAgg3
  z3 := Tryd.sizeOf3
  v3 := Tryd.zeroValue3
  t4 := Tryd.underlying4
  a4 := Tryd.isAgg4
  z4 := Tryd.sizeOf4
  v4 := Tryd.zeroValue4
  t5 := Tryd.underlying5
  a5 := Tryd.isAgg5
  z5 := Tryd.sizeOf5
  v5 := Tryd.zeroValue5
  t9 := Tryd.underlying9
  a9 := Tryd.isAgg9
  z9 := Tryd.sizeOf9
  v9 := Tryd.zeroValue9
  t20 := Tryd.underlying20
  a20 := Tryd.isAgg20
  z20 := Tryd.sizeOf20
  v20 := Tryd.zeroValue20
  t21 := Tryd.underlying21
  a21 := Tryd.isAgg21
  z21 := Tryd.sizeOf21
  v21 := Tryd.zeroValue21
  t37 := Tryd.underlying82
  a37 := Tryd.isAgg82
  z37 := Tryd.sizeOf82
  v37 := Tryd.zeroValue82
  t46 := Tryd.underlying83
  a46 := Tryd.isAgg83
  z46 := Tryd.sizeOf83
  v46 := Tryd.zeroValue83
  t51 := Tryd.underlying128
  a51 := Tryd.isAgg128
  z51 := Tryd.sizeOf128
  v51 := Tryd.zeroValue128
  t53 := Tryd.underlying112
  a53 := Tryd.isAgg112
  z53 := Tryd.sizeOf112
  v53 := Tryd.zeroValue112
  t75 := Tryd.underlying87
  a75 := Tryd.isAgg87
  z75 := Tryd.sizeOf87
  v75 := Tryd.zeroValue87
  t76 := Tryd.underlying88
  a76 := Tryd.isAgg88
  z76 := Tryd.sizeOf88
  v76 := Tryd.zeroValue88
  t85 := Tryd.underlying106
  a85 := Tryd.isAgg106
  z85 := Tryd.sizeOf106
  v85 := Tryd.zeroValue106
  t127 := Tryd.underlying102
  a127 := Tryd.isAgg102
  z127 := Tryd.sizeOf102
  v127 := Tryd.zeroValue102
  t143 := Tryd.underlying138
  a143 := Tryd.isAgg138
  z143 := Tryd.sizeOf138
  v143 := Tryd.zeroValue138
  t145 := Tryd.underlying140
  a145 := Tryd.isAgg140
  z145 := Tryd.sizeOf140
  v145 := Tryd.zeroValue140
  t167 := Tryd.underlying105
  a167 := Tryd.isAgg105
  z167 := Tryd.sizeOf105
  v167 := Tryd.zeroValue105
  t168 := Tryd.underlying108
  a168 := Tryd.isAgg108
  z168 := Tryd.sizeOf108
  v168 := Tryd.zeroValue108
  t171 := Tryd.underlying111
  a171 := Tryd.isAgg111
  z171 := Tryd.sizeOf111
  v171 := Tryd.zeroValue111
  t173 := Tryd.underlying115
  a173 := Tryd.isAgg115
  z173 := Tryd.sizeOf115
  v173 := Tryd.zeroValue115
  t175 := Tryd.underlying120
  a175 := Tryd.isAgg120
  z175 := Tryd.sizeOf120
  v175 := Tryd.zeroValue120
  t210 := Tryd.underlying124
  a210 := Tryd.isAgg124
  z210 := Tryd.sizeOf124
  v210 := Tryd.zeroValue124
  t212 := Tryd.underlying127
  a212 := Tryd.isAgg127
  z212 := Tryd.sizeOf127
  v212 := Tryd.zeroValue127
  t213 := Tryd.underlying129
  a213 := Tryd.isAgg129
  z213 := Tryd.sizeOf129
  t232 := Tryd.underlying142
  a232 := Tryd.isAgg142
  z232 := Tryd.sizeOf142
  v232 := Tryd.zeroValue142
  t233 := Tryd.underlying143
  a233 := Tryd.isAgg143
  z233 := Tryd.sizeOf143
  v233 := Tryd.zeroValue143
  g15 := by kernel_rfl
  g16 := by kernel_rfl
  g17 := by kernel_rfl
  g18 := by kernel_rfl
  g19 := by kernel_rfl
  t80 := Tryd.underlying96
  a80 := Tryd.isAgg96
  z80 := Tryd.sizeOf96
  v80 := Tryd.zeroValue96
  i0 := by kernel_rfl
  i2 := by kernel_rfl
  i3 := by kernel_rfl
  i4 := by kernel_rfl
  i5 := by kernel_rfl
  i9 := by kernel_rfl
  i20 := by kernel_rfl
  i21 := by kernel_rfl
  i37 := by kernel_rfl
  i46 := by kernel_rfl
  i51 := by kernel_rfl
  i53 := by kernel_rfl
  i75 := by kernel_rfl
  i76 := by kernel_rfl
  i80 := by kernel_rfl
  i85 := by kernel_rfl
  i127 := by kernel_rfl
  i143 := by kernel_rfl
  i145 := by kernel_rfl
  i167 := by kernel_rfl
  i168 := by kernel_rfl
  i171 := by kernel_rfl
  i173 := by kernel_rfl
  i175 := by kernel_rfl
  i210 := by kernel_rfl
  i212 := by kernel_rfl
  i232 := by kernel_rfl
  i233 := by kernel_rfl
  m15 := by kernel_rfl
  m16 := by kernel_rfl
  m17 := by kernel_rfl
  m18 := by kernel_rfl
  m19 := by kernel_rfl
  c0 := by kernel_rfl
  c2 := by kernel_rfl
  c3 := by kernel_rfl
  c4 := by kernel_rfl
  c5 := by kernel_rfl
  c9 := by kernel_rfl
  c20 := by kernel_rfl
  c21 := by kernel_rfl
  c37 := by kernel_rfl
  c46 := by kernel_rfl
  c51 := by kernel_rfl
  c53 := by kernel_rfl
  c75 := by kernel_rfl
  c76 := by kernel_rfl
  c80 := by kernel_rfl
  c85 := by kernel_rfl
  c127 := by kernel_rfl
  c143 := by kernel_rfl
  c145 := by kernel_rfl
  c167 := by kernel_rfl
  c168 := by kernel_rfl
  c171 := by kernel_rfl
  c173 := by kernel_rfl
  c175 := by kernel_rfl
  c210 := by kernel_rfl
  c212 := by kernel_rfl
  c213 := by kernel_rfl
  c232 := by kernel_rfl
  c233 := by kernel_rfl }
open Go.RowKit in
/-- strconv.Atoi, AT EVERY STRING THAT SPELLS AN int ('Lib.atoiAll .. = .ok v'; of whatever length: leading zeros count): v, AND NO ERROR. The world: as it was, or with the one new row that '[]byte(..)' lays. (LAID: no walk: one application.) -/
theorem Tryd.strconv_Atoi_ok (s : ByteArray) (hmax : s.size ≤ 9223372036854775806) (v : Int) (h : Lib.atoiAll s.data.toList = .ok v) (w : World) :
    Calls Tryd.prog 54 #[.string s] w fun e w' => e = .returned (.tuple #[.int .i64 v, .nilIface]) ∧ (w' = w ∨ ∃ t, w' = Lib.bytesWorld w 5 t) := Any.strconv_Atoi_ok Tryd.laysC172 s hmax v h w
open Go.RowKit in
/-- strconv.Atoi, AT EVERY STRING THAT IS NO DECIMAL NUMERAL: 0, AND AN ERROR THAT IS NOT nil: a *NumError in a new block N: {Func: "Atoi", Num: s's bytes, Err: what the variable ErrSyntax holds}. Of what was there nothing has turned. (LAID: no walk: one application.) -/
theorem Tryd.strconv_Atoi_syntax (s : ByteArray) (hlim : s.size ≤ 281474976710656) (h : Lib.atoiAll s.data.toList ≠ .range ∧ ∀ v, Lib.atoiAll s.data.toList ≠ .ok v) (ev : Value) (w : World) (hv : w.cell? ⟨1, 0, none⟩ = some ev) (hev : ev = .nilIface ∨ ∃ te pe, ev = .iface te pe) :
    Calls Tryd.prog 54 #[.string s] w fun e w' => ∃ N, e = .returned (.tuple #[.int .i64 (0), .iface 108 (.pointer (some ⟨N, 0, none⟩))]) ∧ w.heap.size ≤ N ∧ w'.heap[N]? = some (.cells #[.string ⟨#[65, 116, 111, 105]⟩, .string s, ev] 124 (0, 0)) ∧ Below w.heap.size w w' := by
  cases hh : Lib.atoiAll s.data.toList with
  | ok v => exact absurd hh (h.2 v)
  | range => exact absurd hh h.1
  | _ => exact Any.strconv_Atoi_syntax Tryd.laysC172 s hlim hh ev w hv hev
open Go.RowKit in
/-- strconv.Atoi, AT EVERY NUMERAL THAT NO int HOLDS ('.range'): THE GREATEST OR THE LEAST int, BY THE SIGN ('Lib.atoiSat'), AND AN ERROR THAT IS NOT nil: a *NumError in a new block N: {Func: "Atoi", Num: s's bytes, Err: what the variable ErrRange holds}. Of what was there nothing has turned. (LAID: no walk: one application.) -/
theorem Tryd.strconv_Atoi_range (s : ByteArray) (hlim : s.size ≤ 281474976710656) (h : Lib.atoiAll s.data.toList = .range) (ev : Value) (w : World) (hv : w.cell? ⟨2, 0, none⟩ = some ev) (hev : ev = .nilIface ∨ ∃ te pe, ev = .iface te pe) :
    Calls Tryd.prog 54 #[.string s] w fun e w' => ∃ N, e = .returned (.tuple #[.int .i64 (Lib.atoiSat s.data.toList), .iface 108 (.pointer (some ⟨N, 0, none⟩))]) ∧ w.heap.size ≤ N ∧ w'.heap[N]? = some (.cells #[.string ⟨#[65, 116, 111, 105]⟩, .string s, ev] 124 (0, 0)) ∧ Below w.heap.size w w' := Any.strconv_Atoi_range Tryd.laysC172 s hlim h ev w hv hev
def Tryd.lays146_ren : Go.Shelf.Ren := ⟨fun | 146 => 33 | 221 => 52 | 268 => 61 | 138 => 62 | 143 => 63 | 195 => 71 | 197 => 72 | 218 => 73 | 219 => 74 | 260 => 87 | 217 => 67 | 225 => 88 | 224 => 89 | 267 => 90 | 266 => 80 | 314 => 99 | n => n, fun | 9 => 9 | 31 => 66 | 3 => 3 | 4 => 4 | 0 => 0 | 105 => 103 | 21 => 21 | 5 => 5 | 46 => 83 | 119 => 131 | 139 => 134 | 138 => 133 | 146 => 135 | 51 => 128 | n => n, fun | 1 => 0 | 3 => 4 | 4 => 5 | n => n⟩
theorem Tryd.lays146 : Go.Proofs.Lays.n146 Tryd.prog Tryd.lays146_ren := {
  mixed := by kernel_rfl
  f138 := Tryd.func62.trans (congrArg some (by kernel_rfl))
  f143 := Tryd.func63.trans (congrArg some (by kernel_rfl))
  f146 := Tryd.func33.trans (congrArg some (by kernel_rfl))
  f195 := Tryd.func71.trans (congrArg some (by kernel_rfl))
  f197 := Tryd.func72.trans (congrArg some (by kernel_rfl))
  f217 := Tryd.func67.trans (congrArg some (by kernel_rfl))
  f218 := Tryd.func73.trans (congrArg some (by kernel_rfl))
  f219 := Tryd.func74.trans (congrArg some (by kernel_rfl))
  f221 := Tryd.func52.trans (congrArg some (by kernel_rfl))
  f224 := Tryd.func89.trans (congrArg some (by kernel_rfl))
  f225 := Tryd.func88.trans (congrArg some (by kernel_rfl))
  f260 := Tryd.func87.trans (congrArg some (by kernel_rfl))
  f266 := Tryd.func80.trans (congrArg some (by kernel_rfl))
  f267 := Tryd.func90.trans (congrArg some (by kernel_rfl))
  f268 := Tryd.func61.trans (congrArg some (by kernel_rfl))
  f314 := Tryd.func99.trans (congrArg some (by kernel_rfl))
  t0 := Tryd.underlying0
  a0 := Tryd.isAgg0
  z0 := Tryd.sizeOf0
  v0 := Tryd.zeroValue0
  t3 := Tryd.underlying3
  a3 := Tryd.isAgg3
  z3 := Tryd.sizeOf3
  v3 := Tryd.zeroValue3
  t4 := Tryd.underlying4
  a4 := Tryd.isAgg4
  z4 := Tryd.sizeOf4
  v4 := Tryd.zeroValue4
  t5 := Tryd.underlying5
  a5 := Tryd.isAgg5
  z5 := Tryd.sizeOf5
  v5 := Tryd.zeroValue5
  t9 := Tryd.underlying9
  a9 := Tryd.isAgg9
  z9 := Tryd.sizeOf9
  v9 := Tryd.zeroValue9
  t21 := Tryd.underlying21
  a21 := Tryd.isAgg21
  z21 := Tryd.sizeOf21
  v21 := Tryd.zeroValue21
  t31 := Tryd.underlying66
  a31 := Tryd.isAgg66
  z31 := Tryd.sizeOf66
  v31 := Tryd.zeroValue66
  t46 := Tryd.underlying83
  a46 := Tryd.isAgg83
  z46 := Tryd.sizeOf83
  v46 := Tryd.zeroValue83
  t51 := Tryd.underlying128
  a51 := Tryd.isAgg128
  z51 := Tryd.sizeOf128
  v51 := Tryd.zeroValue128
  t105 := Tryd.underlying103
  a105 := Tryd.isAgg103
  z105 := Tryd.sizeOf103
  v105 := Tryd.zeroValue103
  t119 := Tryd.underlying131
  a119 := Tryd.isAgg131
  z119 := Tryd.sizeOf131
  t138 := Tryd.underlying133
  a138 := Tryd.isAgg133
  z138 := Tryd.sizeOf133
  v138 := Tryd.zeroValue133
  t139 := Tryd.underlying134
  a139 := Tryd.isAgg134
  z139 := Tryd.sizeOf134
  v139 := Tryd.zeroValue134
  t146 := Tryd.underlying135
  a146 := Tryd.isAgg135
  z146 := Tryd.sizeOf135
  v146 := Tryd.zeroValue135
  g1 := by kernel_rfl
  g3 := by kernel_rfl
  g4 := by kernel_rfl }
open Go.RowKit Go.Lib in
/-- strings.Split. (LAID: no walk: one application.) -/
theorem Tryd.strings_Split (s sep : ByteArray) (m : Int) (w : World) (hs : s.size < 4294967281) (hm : w.cell? ⟨0, 0, none⟩ = some (.int .i64 m)) (h1 : 1 ≤ sep.size) :
    Calls Tryd.prog 33 #[.string s, .string sep] w fun e w' =>
      e = .returned (.slice (some ⟨w.heap.size, 0, none⟩) (Lib.countB s sep + 1) (Lib.countB s sep + 1)) ∧ w' = w.alloc (.cells ((Lib.splitB sep 0 (Lib.countB s sep) s).map Value.string).toArray 9) := Any.strings_Split Tryd.lays146 (by kernel_rfl) s sep m w hs hm h1
def Tryd.laysM146_ren : Go.Shelf.Ren := ⟨fun | 146 => 33 | 221 => 52 | 268 => 61 | 138 => 62 | 143 => 63 | 195 => 71 | 197 => 72 | 218 => 73 | 219 => 74 | 260 => 87 | 217 => 67 | 225 => 88 | 224 => 89 | 267 => 90 | 266 => 80 | 314 => 99 | n => n, fun | 9 => 9 | 31 => 66 | 3 => 3 | 4 => 4 | 0 => 0 | 105 => 103 | 21 => 21 | 5 => 5 | 46 => 83 | 119 => 131 | 139 => 134 | 138 => 133 | 146 => 135 | 51 => 128 | n => n, fun | 1 => 0 | 3 => 4 | 4 => 5 | n => n⟩
theorem Tryd.laysM146 : Go.Proofs.LaysM.n146 Tryd.prog Tryd.laysM146_ren := {
  mixed := by kernel_rfl
  f138 := Tryd.func62.trans (congrArg some (by kernel_rfl))
  f143 := Tryd.func63.trans (congrArg some (by kernel_rfl))
  f146 := Tryd.func33.trans (congrArg some (by kernel_rfl))
  f195 := Tryd.func71.trans (congrArg some (by kernel_rfl))
  f197 := Tryd.func72.trans (congrArg some (by kernel_rfl))
  f217 := Tryd.func67.trans (congrArg some (by kernel_rfl))
  f218 := Tryd.func73.trans (congrArg some (by kernel_rfl))
  f219 := Tryd.func74.trans (congrArg some (by kernel_rfl))
  f221 := Tryd.func52.trans (congrArg some (by kernel_rfl))
  f224 := Tryd.func89.trans (congrArg some (by kernel_rfl))
  f225 := Tryd.func88.trans (congrArg some (by kernel_rfl))
  f260 := Tryd.func87.trans (congrArg some (by kernel_rfl))
  f266 := Tryd.func80.trans (congrArg some (by kernel_rfl))
  f267 := Tryd.func90.trans (congrArg some (by kernel_rfl))
  f268 := Tryd.func61.trans (congrArg some (by kernel_rfl))
  f314 := Tryd.func99.trans (congrArg some (by kernel_rfl))
  t0 := Tryd.underlying0
  a0 := Tryd.isAgg0
  z0 := Tryd.sizeOf0
  v0 := Tryd.zeroValue0
  t3 := Tryd.underlying3
  a3 := Tryd.isAgg3
  z3 := Tryd.sizeOf3
  v3 := Tryd.zeroValue3
  t4 := Tryd.underlying4
  a4 := Tryd.isAgg4
  z4 := Tryd.sizeOf4
  v4 := Tryd.zeroValue4
  t5 := Tryd.underlying5
  a5 := Tryd.isAgg5
  z5 := Tryd.sizeOf5
  v5 := Tryd.zeroValue5
  t9 := Tryd.underlying9
  a9 := Tryd.isAgg9
  z9 := Tryd.sizeOf9
  v9 := Tryd.zeroValue9
  t21 := Tryd.underlying21
  a21 := Tryd.isAgg21
  z21 := Tryd.sizeOf21
  v21 := Tryd.zeroValue21
  t31 := Tryd.underlying66
  a31 := Tryd.isAgg66
  z31 := Tryd.sizeOf66
  v31 := Tryd.zeroValue66
  t46 := Tryd.underlying83
  a46 := Tryd.isAgg83
  z46 := Tryd.sizeOf83
  v46 := Tryd.zeroValue83
  t51 := Tryd.underlying128
  a51 := Tryd.isAgg128
  z51 := Tryd.sizeOf128
  v51 := Tryd.zeroValue128
  t105 := Tryd.underlying103
  a105 := Tryd.isAgg103
  z105 := Tryd.sizeOf103
  v105 := Tryd.zeroValue103
  t119 := Tryd.underlying131
  a119 := Tryd.isAgg131
  z119 := Tryd.sizeOf131
  t138 := Tryd.underlying133
  a138 := Tryd.isAgg133
  z138 := Tryd.sizeOf133
  v138 := Tryd.zeroValue133
  t139 := Tryd.underlying134
  a139 := Tryd.isAgg134
  z139 := Tryd.sizeOf134
  v139 := Tryd.zeroValue134
  t146 := Tryd.underlying135
  a146 := Tryd.isAgg135
  z146 := Tryd.sizeOf135
  v146 := Tryd.zeroValue135
  g1 := by kernel_rfl
  g3 := by kernel_rfl
  g4 := by kernel_rfl
  i0 := by kernel_rfl
  i3 := by kernel_rfl
  i4 := by kernel_rfl
  i5 := by kernel_rfl
  i9 := by kernel_rfl
  i21 := by kernel_rfl
  i31 := by kernel_rfl
  i46 := by kernel_rfl
  i51 := by kernel_rfl
  i105 := by kernel_rfl
  i138 := by kernel_rfl
  i139 := by kernel_rfl
  i146 := by kernel_rfl
  m1 := by kernel_rfl
  s1_3 := fun w h => Go.Proofs.cell_of_shapedOpen_int (zero := #[.int .i64 0]) (t := 3) h (of_decide_eq_true (by kernel_rfl)) (by kernel_rfl) rfl (by kernel_rfl) (by kernel_rfl) Tryd.underlying3
  m3 := by kernel_rfl
  m4 := by kernel_rfl }
end Go.Proofs
namespace Go.Proofs.YtbgpojdmdnkeaaaDoor
open Go.Abs Go.RowKit
def globA : HA := glob Tryd.prog 8
theorem gMax : Tryd.prog.globalNamed "internal/bytealg.MaxLen" = some 0 := by kernel_rfl
theorem gSyn : Tryd.prog.globalNamed "strconv.ErrSyntax" = some 1 := by kernel_rfl
theorem gRng : Tryd.prog.globalNamed "strconv.ErrRange" = some 2 := by kernel_rfl
def itoaH (n : Int) : Option (List UInt8) := need (-9223372036854775808 ≤ n ∧ n ≤ 9223372036854775807) (some (itoaP n))
theorem itoaH_ok (n : Int) {r : List UInt8} (h : itoaH n = some r) : Meets Tryd.prog 50 [.int .i64 n] [globA] (fun v G => v = .string (bs r) ∧ G = []) := by
  obtain ⟨hn, h⟩ := need_some h
  obtain rfl := Option.some.inj h
  intro w o hb hs
  have hg : GlobIs Tryd.prog 8 w := (hs 0 _ rfl).2.2
  obtain ⟨_, _, _, htab⟩ := hg.pow10
  refine (Tryd.strconv_Itoa n hn.1 hn.2 w htab).mono ?_
  rintro e w' ⟨rfl, k, os, rfl⟩
  exact ends_below hb (below_grow w k os) ⟨by rw [itoaP_eq hn.1 hn.2]; rfl, rfl⟩ sats_nil
def idxH (s : List UInt8) (c : Int) : Option Int := some (idxP s c.toNat.toUInt8)
theorem idxH_ok (s : List UInt8) (c : Int) {r : Int} (h : idxH s c = some r) : Meets Tryd.prog 55 [.string (bs s), .int .u8 c] [] (fun v G => v = .int .i64 r ∧ G = []) := by
  obtain rfl := Option.some.inj h
  intro w o hb hs
  refine (Tryd.strings_IndexByte (bs s) c w).mono ?_
  rintro e w' ⟨rfl, rfl⟩
  exact ends_below hb (Below.refl _ _) ⟨by rw [← idxP_eq]; rfl, rfl⟩ sats_nil
def atoiH (s : List UInt8) : Option (Int × Bool) := need (s.length ≤ 4294967296) (some (atoiP s))
theorem atoiH_ok (s : List UInt8) {r : Int × Bool} (h : atoiH s = some r) : Meets Tryd.prog 54 [.string (bs s)] [globA] (fun v G => ∃ v0, v = .tuple #[.int .i64 r.1, v0] ∧ G = [oif v0 r.2]) := by
  obtain ⟨hl, h⟩ := need_some h
  obtain rfl := Option.some.inj h
  intro w o hb hs
  have hg : GlobIs Tryd.prog 8 w := (hs 0 _ rfl).2.2
  have hsz : (bs s).size = s.length := by simp [bs, ByteArray.size]
  have hd : (bs s).data.toList = s := by simp [bs]
  unfold atoiP
  cases ha : Lib.atoiAll s with
  | ok v =>
    refine (Tryd.strconv_Atoi_ok (bs s) (by omega) v (by rw [hd]; exact ha) w).mono ?_
    rintro e w' ⟨rfl, hw⟩
    have hbl : Below w.heap.size w w' := by
      rcases hw with rfl | ⟨t, rfl⟩
      · exact Below.refl _ _
      · exact Lib.bytesWorld_below _ _ _
    exact ends_below hb hbl ⟨_, rfl, rfl⟩ fun j g hj => by
      cases j with
      | zero => obtain rfl := Option.some.inj hj; exact .inl ⟨rfl, rfl⟩
      | succ j => simp at hj
  | range =>
    obtain ⟨g, t, p, e1, _, e2⟩ := hg.errRange
    obtain rfl := Option.some.inj (gRng.symm.trans e1)
    refine (Tryd.strconv_Atoi_range (bs s) (by omega) (by rw [hd]; exact ha) _ w e2 (.inr ⟨t, p, rfl⟩)).mono ?_
    rintro e w' ⟨M, rfl, _, _, hbl⟩
    exact ends_below hb hbl ⟨_, by rw [hd], rfl⟩ fun j g hj => by
      cases j with
      | zero => obtain rfl := Option.some.inj hj; exact .inr ⟨⟨_, _, rfl⟩, rfl⟩
      | succ j => simp at hj
  | _ =>
    obtain ⟨g, t, p, e1, _, e2⟩ := hg.errSyntax
    obtain rfl := Option.some.inj (gSyn.symm.trans e1)
    refine (Tryd.strconv_Atoi_syntax (bs s) (by omega) (by rw [hd, ha]; exact ⟨fun q => (by cases q), fun v q => (by cases q)⟩) _ w e2 (.inr ⟨t, p, rfl⟩)).mono ?_
    rintro e w' ⟨M, rfl, _, _, hbl⟩
    exact ends_below hb hbl ⟨_, rfl, rfl⟩ fun j g hj => by
      cases j with
      | zero => obtain rfl := Option.some.inj hj; exact .inr ⟨⟨_, _, rfl⟩, rfl⟩
      | succ j => simp at hj
def splitH (s sep : List UInt8) : Option (List (List UInt8)) := need (s.length ≤ 1073741824) (match sep with | [c] => some (splitP c s) | _ => none)
theorem splitP_len (c : UInt8) : ∀ l : List UInt8, (splitP c l).length ≤ l.length + 1
  | [] => by simp [splitP]
  | b :: r => by
    have := splitP_len c r
    unfold splitP
    split
    · simp; omega
    · split
      · simp
      · rename_i hq; rw [hq] at this; simp at this ⊢; omega
theorem splitH_ok (s sep : List UInt8) {r : List (List UInt8)} (h : splitH s sep = some r) : Meets Tryd.prog 33 [.string (bs s), .string (bs sep)] [globA] (fun v G => ∃ v0, v = v0 ∧ G = [row v0 1 (r.map eStr)]) := by
  obtain ⟨hl, h⟩ := need_some h
  match sep, h with
  | [c], h =>
    obtain rfl := Option.some.inj h
    intro w o hb hs
    have hg : GlobIs Tryd.prog 8 w := (hs 0 _ rfl).2.2
    obtain ⟨g, m, e1, _, e2⟩ := hg.maxLen
    obtain rfl := Option.some.inj (gMax.symm.trans e1)
    have hsz : (bs s).size = s.length := by simp [bs, ByteArray.size]
    obtain ⟨a1, a2⟩ := splitB_eq c s.length s (Nat.le_refl _)
    refine (Tryd.strings_Split (bs s) (bs [c]) m w (by omega) e2 (by simp [bs, ByteArray.size])).mono ?_
    rintro e w' ⟨rfl, rfl⟩
    rw [a1, a2]
    have hlen := splitP_len c s
    refine ⟨_, _, fun b => if b = w.heap.size then .mine 0 else o b, rfl, ⟨_, rfl, rfl⟩, ?_, ?_, ?_⟩
    · intro b hb'
      simp [World.alloc, -World.alloc_eq] at hb'
      simp only [show ¬ b = w.heap.size by omega, if_false]
      exact hb b (by omega)
    · refine ⟨rfl, rfl, rfl, by simp [World.alloc, -World.alloc_eq], fun b hlt ho => ⟨by simp only [show ¬ b = w.heap.size by omega, if_false]; exact ho, Below.heap_alloc _ _ _ hlt⟩, fun b hlt ho => ⟨by simp only [show ¬ b = w.heap.size by omega, if_false]; exact ho, Below.heap_alloc _ _ _ hlt⟩⟩
    · intro j g hj
      cases j with
      | succ j => simp at hj
      | zero =>
        obtain rfl := Option.some.inj hj
        refine .inr ⟨w.heap.size, 0, (splitP c s).length, ((splitP c s).map bs |>.map Value.string).toArray, 9, (0, 0), by simp, by simp, by simp [World.alloc, -World.alloc_eq], by simp [World.alloc, -World.alloc_eq], .inl (Nat.le_refl _), by simp, by simp, ?_, ?_, ?_⟩
        · have : (4294967296 : Nat) ≤ maxLen := by decide
          omega
        · intro c' hc'
          obtain ⟨x, _, rfl⟩ := List.mem_map.1 hc'
          rfl
        · intro i c' hi j x hj
          simp only [List.getElem?_map, Option.map_eq_some_iff] at hi
          obtain ⟨y, hy, rfl⟩ := hi
          cases j with
          | succ j => simp [eStr] at hj
          | zero =>
            obtain rfl : Value.string (bs y) = x := by simpa [eStr] using hj
            simp [hy]
def joinH (l : List (List UInt8)) (sep : List UInt8) : Option (List UInt8) := need (0 < l.length ∧ l.length ≤ 4294967296 ∧ (joinP l sep).length ≤ 4294967296) (some (joinP l sep))
theorem joinH_ok (l : List (List UInt8)) (sep : List UInt8) (v : Value) {r : List UInt8} (h : joinH l sep = some r) : Meets Tryd.prog 51 [v, .string (bs sep)] [ro v 1 (l.map eStr)] (fun v G => v = .string (bs r) ∧ G = []) := by
  obtain ⟨⟨h1, h2, h3⟩, h⟩ := need_some h
  obtain rfl := Option.some.inj h
  intro w o hb hs
  obtain ⟨a, cap, rfl, c1, c2, c3, c4⟩ := hs 0 _ rfl
  obtain ⟨x0, hx0⟩ : ∃ x, l[0]? = some x := ⟨_, List.getElem?_eq_getElem h1⟩
  obtain ⟨_, b, off, rfl, c5, c6, c7⟩ := c4 0 (eStr x0) (by simp [hx0])
  have hm : (l.map bs).map (fun x => x.data.toList) = l := by
    rw [List.map_map]
    conv => rhs; rw [← List.map_id l]
    exact List.map_congr_left fun x _ => by simp [bs]
  have hsep : (bs sep).data.toList = sep := by simp [bs]
  have := Tryd.strings_Join b off cap (l.map bs) (bs sep) w (fun j x hj => by
    simp only [List.getElem?_map, Option.map_eq_some_iff] at hj
    obtain ⟨y, hy, rfl⟩ := hj
    obtain ⟨_, b', off', e', _, _, c8⟩ := c4 j (eStr y) (by simp [hy])
    obtain ⟨rfl, rfl⟩ : b' = b ∧ off' = off := by simp only [Option.some.injEq, Addr.mk.injEq] at e'; exact ⟨e'.1.symm, e'.2.1.symm⟩
    have := c8 0 _ rfl
    simpa using this) c5 (by simp; omega) (by simpa using c1) (by rw [hm, hsep]; show (joinP l sep).length ≤ _; omega)
  simp only [List.length_map] at this ⊢
  refine this.mono ?_
  rintro e w' ⟨rfl, hbl⟩
  rw [hm, hsep]
  exact ends_below hb hbl ⟨rfl, rfl⟩ sats_nil
end Go.Proofs.YtbgpojdmdnkeaaaDoor
namespace Go.Proofs.YtbgpojdmdnkeaaaDoor
open Go.Abs
set_option maxRecDepth 20000
theorem parseRec_ret (b c : Nat) (H : List HA) : RecD Tryd.prog 32 [boxP b 0, boxP c 0] .returning .returning H H := by
  refine recD_of Tryd.func32 rfl Tryd.ntmps32 rfl (fun w0 o0 c0 cf hu => ?_)
  refine runS_seq (runS_region [0, 1] rfl ?_)
  refine opsS_recover (v := .nilIface) (cs' := c0 :: cf) rfl rfl (by simp [recoverD, hu]) ?_
  refine opsS_y rfl rfl rfl (y_assign rfl) ?_
  refine opsS_nil (opsS_next ?_)
  refine runS_seq (runS_region [0, 1] rfl ?_)
  refine opsS_y rfl rfl rfl (y_move rfl) ?_
  refine opsS_y rfl rfl rfl (y_ifne (v := .nilIface) (b := true) Tryd.runUnderlying20 rfl (.inl ⟨rfl, rfl⟩)) ?_
  refine opsS_nil (opsS_next ?_)
  refine runS_cond_f rfl ?_
  exact runS_skip (leafS Tryd.results32 (congrArg (· :: cf) (mode_same hu)))
theorem parseRec_pan (b c : Nat) (e : Int) {H : List HA} (i j : Nat) {vs : List Value} {x : Value} (hi : H[i]? = some (box b vs)) (hl : vs.length = 3) (hj : H[j]? = some (box c [x])) (hij : i ≠ j) :
    RecD Tryd.prog 32 [boxP b 0, boxP c 0] (.panicking [{ v := .iface 31 (.int .i64 e), recovered := false }]) (.panicking [{ v := .iface 31 (.int .i64 e), recovered := true }]) H
      ((H.set i (box b [.int .i64 0, .slice none 0 0, .bool false])).set j (box c [.int .i64 e])) := by
  refine recD_of Tryd.func32 rfl Tryd.ntmps32 rfl (fun w0 o0 c0 cf hu => ?_)
  refine runS_seq (runS_region [0, 1] rfl ?_)
  refine opsS_recover (v := .iface 31 (.int .i64 e)) (cs' := { c0 with mode := .panicking [{ v := .iface 31 (.int .i64 e), recovered := true }] } :: cf) rfl rfl (by simp [recoverD, hu]) ?_
  refine opsS_y rfl rfl rfl (y_assign rfl) ?_
  refine opsS_nil (opsS_next ?_)
  refine runS_seq (runS_region [0, 1] rfl ?_)
  refine opsS_y rfl rfl rfl (y_move rfl) ?_
  refine opsS_y rfl rfl rfl (y_ifne (v := .iface 31 (.int .i64 e)) (b := false) Tryd.runUnderlying20 rfl (.inr ⟨⟨_, _, rfl⟩, rfl⟩)) ?_
  refine opsS_nil (opsS_next ?_)
  refine runS_cond_t rfl ?_
  refine runS_of (fun L hL => ?_)
  refine run_drawany [] (by kernel_rfl) ?_
  refine any_y 0 rfl (by kernel_rfl) (by kernel_rfl) (by kernel_rfl) sub_nil (wn rfl) rfl (y_build_struct (cells := #[.int .i64 0, .slice none 0 0, .bool false]) [] [] Tryd.zeroValue27 Tryd.runUnderlying27 (fs_cons Tryd.sizeOf3 (fs_cons Tryd.sizeOf22 (fs_cons Tryd.sizeOf4 fs_nil))) rfl rfl rfl) ?_
  refine any_y 1 rfl (by kernel_rfl) (by kernel_rfl) (by kernel_rfl) sub_nil (wn rfl) rfl (y_move rfl) ?_
  refine any_y 2 rfl (by kernel_rfl) (by kernel_rfl) (by kernel_rfl) sub_nil (wn rfl) rfl (y_assert Tryd.runUnderlying31 rfl rfl) ?_
  refine any_all [3] (by kernel_rfl) rfl (anyo_cons ?_ anyo_nil)
  refine any_t rfl (wn rfl) rfl (t_store_all (b := b) (c := [.int .i64 0, .slice none 0 0, .bool false]) i Tryd.sizeOf27 rfl rfl hi rfl hl (by simp [Value.oneCell'])) ?_
  rintro _ _ ⟨rfl, rfl⟩
  refine ⟨sub_nil, ?_⟩
  refine any_all [4] (by kernel_rfl) rfl (anyo_cons ?_ anyo_nil)
  refine any_t rfl (wn rfl) rfl (t_store (b := c) (off := 0) (vs := [x]) (v := .int .i64 e) j Tryd.sizeOf31 rfl rfl (by rw [List.getElem?_set_ne hij]; exact hj) rfl (by simp) (by simp [Value.cells, Value.oneCell'])) ?_
  rintro _ _ ⟨rfl, rfl⟩
  refine ⟨sub_nil, ?_⟩
  refine any_nil (by kernel_rfl) ?_
  exact fun a w r => hL _ _ (leafS Tryd.results32 rfl) a w r
end Go.Proofs.YtbgpojdmdnkeaaaDoor
