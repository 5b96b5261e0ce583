/-
  Rules for operations: what an operation yields from known operands and the assertions on memory.
-/
import Derived.Test.YtigiikkenamneaaAbsCore
namespace Go.Abs

variable {E : Env} {k : List KI} {V : VF} {H : List HA}

def Fits (V : VF) (ρ : Operand → Value) : Prop := ∀ x v, V.ev x = some v → ρ x = v

/-- how an operation ends: a value, nothing, or a call that returns -/
def Does (P : Program) (s : Sem Next) (w : World) (D : Value → World → Prop) : Prop :=
  match s.run P w with
  | .ok (.value v) w' => D v w'
  | .ok .skip w' => D undef w'
  | .ok (.enter f args) w' => Calls P f args w' (fun e w'' => ∃ v, e = .returned v ∧ D v w'')
  | _ => False
theorem Does.semAt {P : Program} {op : Oper} {ρ : Operand → Value} {w : World} {D : Value → World → Prop} (r : Option Nat) (h : Does P (execOp ρ op) w D) : op.semAt r ρ = execOp ρ op := by
  refine Oper.semAt_eq r ρ op fun c hc => ?_
  unfold Does execOp at h
  rw [hc] at h
  simp only [Sem.run_bind] at h
  cases hx : (resolve ρ c op.type).run P w with
  | halt x w' => simp [hx, Result.andThen] at h
  | ok d w' => simp [hx, Result.andThen] at h

def OpT (P : Program) (op : Oper) (V : VF) (H : List HA) (post : Post) : Prop :=
  ∀ ρ w o, Fits V ρ → Bnd w o → Sats w o H →
    Does P (execOp ρ op) w (fun v w' => ∃ H' o', post v H' ∧ Bnd w' o' ∧ Tr w o w' o' ∧ Sats w' o' H')
def OpY (P : Program) (op : Oper) (V : VF) (H : List HA) (v : Value) : Prop :=
  ∀ ρ w o, Fits V ρ → Bnd w o → Sats w o H → (execOp ρ op).run P w = .ok (.value v) w

theorem OpY.t {P : Program} {op : Oper} {v : Value} (h : OpY P op V H v) : OpT P op V H (fun v' H' => v' = v ∧ H' = H) := by
  intro ρ w o hf hb hs
  unfold Does
  rw [h ρ w o hf hb hs]
  exact ⟨H, o, ⟨rfl, rfl⟩, hb, Tr.refl w o, hs⟩

theorem Rel.fits {a : Act} {w : World} (r : Rel E V H a w) : Fits V a.eval := fun _ _ hx => r.2.2.1.ev hx

def inB (n : Nat) : Option Nat → Bool
  | some d => Nat.blt d n
  | none => true

theorem Rel.put {a : Act} {w w' : World} {o o' : Own} {d : Option Nat} {v : Value} {H' : List HA} (h1 : a.tmps.size = E.n) (h2 : E.r.isSome = true → a.defers = []) (h3 : Agree V a)
    (hd : inB E.n d = true) (hb : Bnd w' o') (ht0 : TrM E.w0 E.o0 a.defers w o) (ht : Tr w o w' o') (hs : Sats w' o' H') : Rel E (V.put d v) H' (a.put d v) w' := by
  cases d with
  | none => exact ⟨h1, h2, h3, o', hb, ht0.trans ht, hs⟩
  | some d =>
    have hlt : d < E.n := by simpa [inB] using hd
    refine ⟨by simp [Act.put, h1], h2, ?_, o', hb, ht0.trans ht, hs⟩
    intro t x hx
    rcases VF.set_eq hx with ⟨rfl, rfl⟩ | ⟨hne, hx⟩
    · simp [Act.put, h1, hlt]
    · have := h3 t x hx
      simp only [Act.put, Array.getD_eq_getD_getElem?] at this ⊢
      rw [Array.getElem?_setIfInBounds_ne (by omega)]
      exact this

/-- the operation is wanted -/
def Wants (n : Nat) (ops : Array Oper) (V : VF) (op : Oper) : Prop :=
  op.guard = none ∨ ∃ j b t, op.guard = some (j, b) ∧ ((ops[j]?).bind (·.dst)) = some t ∧ V t = some (.bool b) ∧ Nat.blt t n = true
theorem wn {n : Nat} {ops : Array Oper} {op : Oper} (h : op.guard = none) : Wants n ops V op := .inl h
theorem wg {n : Nat} {ops : Array Oper} {op : Oper} (j : Nat) (b : Bool) (t : Nat) (h : op.guard = some (j, b)) (hj : ((ops[j]?).bind (·.dst)) = some t)
    (hv : V t = some (.bool b)) (ht : Nat.blt t n = true) : Wants n ops V op := .inr ⟨j, b, t, h, hj, hv, ht⟩

theorem getD_some {a : Act} {t n : Nat} {v : Value} (h1 : a.tmps.size = n) (ht : Nat.blt t n = true) (h : a.tmps.getD t undef = v) : a.tmps[t]? = some v := by
  have hlt : t < a.tmps.size := by rw [h1]; simpa using ht
  rw [Array.getD_eq_getD_getElem?, Array.getElem?_eq_getElem hlt] at h
  rw [Array.getElem?_eq_getElem hlt]
  simpa using h

theorem Wants.wanted {ops : Array Oper} {op : Oper} {a : Act} {w : World} (h : Wants E.n ops V op) (r : Rel E V H a w) : Region.wanted op (yielded ops a.tmps) = true := by
  rcases h with h | ⟨j, b, t, hg, hj, hv, ht⟩
  · simp [Region.wanted, h]
  · have h2 := getD_some r.1 ht (r.2.2.1 t _ hv)
    simp [Region.wanted, hg, yielded, hj, h2]

theorem ops_t {ops : Array Oper} {op : Oper} {rest : List Oper} {post : Post} (hw : Wants E.n ops V op) (hd : inB E.n op.dst = true) (h : OpT E.P op V H post)
    (hk : ∀ v H', post v H' → Ops E ops rest k (V.put op.dst v) H') : Ops E ops (op :: rest) k V H := by
  intro a w r
  unfold wpListIn
  rw [if_pos (hw.wanted r)]
  have hf := r.fits
  obtain ⟨h1, h2, h3, o, hb, ht, hs⟩ := r
  have := h a.eval w o hf hb hs
  unfold Oper.wpIn
  refine ⟨fun _ _ => trivial, ?_⟩
  rw [Does.semAt _ this]
  unfold Does at this
  generalize (execOp a.eval op).run E.P w = x at *
  cases x with
  | halt x w' => simp at this
  | ok nx w' =>
    cases nx <;> simp only [Oper.uponIn] at this ⊢
    case value v =>
      obtain ⟨H', o', hp, hb', ht', hs'⟩ := this
      exact hk v H' hp _ _ (Rel.put h1 h2 h3 hd hb' ht ht' hs')
    case skip =>
      obtain ⟨H', o', hp, hb', ht', hs'⟩ := this
      exact hk _ H' hp _ _ (Rel.put h1 h2 h3 hd hb' ht ht' hs')
    case enter f args =>
      refine ⟨(fun h => nomatch h), CallsIn.mono (F := FR E.r) (callsIn_wide.2 this) ?_⟩
      rintro e w'' ⟨v, rfl, H', o', hp, hb', ht', hs'⟩
      exact hk v H' hp _ _ (Rel.put h1 h2 h3 hd hb' ht ht' hs')

/-- a call of yield: a round -/
def OpR (P : Program) (op : Oper) (V : VF) (H : List HA) (post : Post) : Prop :=
  (∀ c, op.op ≠ .defer c) ∧ ∀ ρ w o, Fits V ρ → Bnd w o → Sats w o H → ∃ l f tmps assign body, (execOp ρ op).run P w = .ok (.round l f tmps assign body) w ∧
    RoundIn (FR none) 0 P l f tmps assign body w (fun e w'' => ∃ v, e = .returned v ∧ ∃ H' o', post v H' ∧ Bnd w'' o' ∧ Tr w o w'' o' ∧ Sats w'' o' H')
theorem ops_r {ops : Array Oper} {op : Oper} {rest : List Oper} {post : Post} (hw : Wants E.n ops V op) (hd : inB E.n op.dst = true) (h : OpR E.P op V H post)
    (hk : ∀ v H', post v H' → Ops E ops rest k (V.put op.dst v) H') : Ops E ops (op :: rest) k V H := by
  intro a w r
  unfold wpListIn
  rw [if_pos (hw.wanted r)]
  have hf := r.fits
  obtain ⟨h1, h2, h3, o, hb, ht, hs⟩ := r
  obtain ⟨l, f, tmps, assign, body, e, hr⟩ := h.2 a.eval w o hf hb hs
  unfold Oper.wpIn
  refine ⟨fun _ _ => trivial, ?_⟩
  rw [Oper.semAt_eq _ _ _ h.1, e]
  refine ⟨(fun h => nomatch h), RoundIn.mono (F := FR E.r) hr ?_⟩
  rintro e w'' ⟨v, rfl, H', o', hp, hb', ht', hs'⟩
  exact hk v H' hp _ _ (Rel.put h1 h2 h3 hd hb' ht ht' hs')

theorem ops_y {ops : Array Oper} {op : Oper} {rest : List Oper} {v : Value} (hw : Wants E.n ops V op) (hd : inB E.n op.dst = true) (h : OpY E.P op V H v)
    (hk : Ops E ops rest k (V.put op.dst v) H) : Ops E ops (op :: rest) k V H :=
  ops_t hw hd h.t fun _ _ ⟨e1, e2⟩ => by subst e1; subst e2; exact hk

/-- the operation is passed over -/
theorem ops_no {ops : Array Oper} {op : Oper} {rest : List Oper} (j : Nat) (b : Bool) (t : Nat) (hg : op.guard = some (j, b)) (hj : ((ops[j]?).bind (·.dst)) = some t)
    (hv : V t = some (.bool (!b))) (ht : Nat.blt t E.n = true) (hd : inB E.n op.dst = true) (hk : Ops E ops rest k (V.put op.dst undef) H) : Ops E ops (op :: rest) k V H := by
  intro a w r
  have h2 := getD_some r.1 ht (r.2.2.1 t _ hv)
  unfold wpListIn
  rw [if_neg (by cases b <;> simp [Region.wanted, hg, yielded, hj, h2])]
  refine ⟨fun _ _ => trivial, ?_⟩
  obtain ⟨h1, h2, h3, o, hb, ht, hs⟩ := r
  exact hk _ _ (Rel.put h1 h2 h3 hd hb ht (Tr.refl w o) hs)

/-- a slot's truth value parts the way -/
theorem ops_split {ops : Array Oper} {l : List Oper} (t : Nat) (b : Bool) (hv : V t = some (.bool b)) (ht : b = true → Ops E ops l k (V.set t (.bool true)) H)
    (hf : b = false → Ops E ops l k (V.set t (.bool false)) H) : Ops E ops l k V H := by
  have same : ∀ c, b = c → ∀ a, Agree V a → Agree (V.set t (.bool c)) a := by
    intro c hc a ha u x hx
    rcases VF.set_eq hx with ⟨rfl, rfl⟩ | ⟨_, hx⟩
    · exact hc ▸ ha u _ hv
    · exact ha u x hx
  intro a w r
  cases hb : b with
  | true => exact ht hb a w ⟨r.1, r.2.1, same _ hb a r.2.2.1, r.2.2.2⟩
  | false => exact hf hb a w ⟨r.1, r.2.1, same _ hb a r.2.2.1, r.2.2.2⟩

/-- another spelling of what a slot holds -/
theorem ops_as {ops : Array Oper} {l : List Oper} (t : Nat) (v v' : Value) (hv : V t = some v) (e : v = v') (h : Ops E ops l k (V.set t v') H) : Ops E ops l k V H := by
  intro a w r
  refine h a w ⟨r.1, r.2.1, ?_, r.2.2.2⟩
  intro u x hx
  rcases VF.set_eq hx with ⟨rfl, rfl⟩ | ⟨_, hx⟩
  · exact e ▸ r.2.2.1 u _ hv
  · exact r.2.2.1 u x hx

theorem OpY.to {P : Program} {op : Oper} {v v' : Value} (h : OpY P op V H v) (e : v = v') : OpY P op V H v' := e ▸ h

section pure
variable {P : Program} {d : Option Nat} {ty : TypeId} {pos : String} {af : Array Edge} {g : Option (Nat × Bool)}

theorem y_move {x : Operand} {v : Value} (hx : V.ev x = some v) : OpY P ⟨d, .move x, ty, pos, af, g⟩ V H v := by
  intro ρ w o hf _ _; simp [execOp, hf x v hx]
theorem y_assign {x : Operand} {v : Value} (hx : V.ev x = some v) : OpY P ⟨d, .assign x, ty, pos, af, g⟩ V H v := by
  intro ρ w o hf _ _; simp [execOp, hf x v hx]
theorem y_pick {c x y : Operand} {b : Bool} {v : Value} (hc : V.ev c = some (.bool b)) (hv : V.ev (if b then x else y) = some v) : OpY P ⟨d, .pick c x y, ty, pos, af, g⟩ V H v := by
  intro ρ w o hf _ _
  have h1 := hf c _ hc
  have h2 := hf _ _ hv
  cases b <;> simp [execOp, h1, asBool] <;> simpa using h2

/-- the guard of '==' is idle at numbers, strings, truth values -/
def plainB : Value → Bool
  | .int .. | .string _ | .bool _ => true
  | _ => false
theorem run_eqGuard (P : Program) (w : World) (op : BinOp) (t : TypeId) (x y : Operand) {a b : Value} (ha : plainB a = true) : (eqGuard op t x y a b).run P w = .ok () w := by
  unfold eqGuard
  cases op <;> simp <;> (cases a <;> simp [plainB] at ha <;> simp)

theorem y_bin {op : BinOp} {T U : TypeId} {x y : Operand} {a b v : Value} (hx : V.ev x = some a) (hy : V.ev y = some b) (ha : plainB a = true)
    (hr : ∀ w, (binOp op T a b).run P w = .ok v w) : OpY P ⟨d, .binOp op T x y U, ty, pos, af, g⟩ V H v := by
  intro ρ w o hf _ _
  simp [execOp, hf x a hx, hf y b hy, run_eqGuard P w op T x y ha, hr]

theorem y_add {T U : TypeId} {x y : Operand} {kd : IntKind} {a b : Int} (hx : V.ev x = some (.int kd a)) (hy : V.ev y = some (.int kd b)) :
    OpY P ⟨d, .binOp .add T x y U, ty, pos, af, g⟩ V H (.int kd (kd.wrap (a + b))) := y_bin hx hy rfl (fun w => by simp [binOp, Op.intArith])
theorem y_sub {T U : TypeId} {x y : Operand} {kd : IntKind} {a b : Int} (hx : V.ev x = some (.int kd a)) (hy : V.ev y = some (.int kd b)) :
    OpY P ⟨d, .binOp .sub T x y U, ty, pos, af, g⟩ V H (.int kd (kd.wrap (a - b))) := y_bin hx hy rfl (fun w => by simp [binOp, Op.intArith])
theorem y_mul {T U : TypeId} {x y : Operand} {kd : IntKind} {a b : Int} (hx : V.ev x = some (.int kd a)) (hy : V.ev y = some (.int kd b)) :
    OpY P ⟨d, .binOp .mul T x y U, ty, pos, af, g⟩ V H (.int kd (kd.wrap (a * b))) := y_bin hx hy rfl (fun w => by simp [binOp, Op.intArith])
theorem y_quo {T U : TypeId} {x y : Operand} {kd : IntKind} {a b : Int} (hx : V.ev x = some (.int kd a)) (hy : V.ev y = some (.int kd b)) (h0 : b ≠ 0) :
    OpY P ⟨d, .binOp .quo T x y U, ty, pos, af, g⟩ V H (.int kd (kd.wrap (a.tdiv b))) := y_bin hx hy rfl (fun w => by simp [binOp, Op.intDiv, h0])
theorem y_rem {T U : TypeId} {x y : Operand} {kd : IntKind} {a b : Int} (hx : V.ev x = some (.int kd a)) (hy : V.ev y = some (.int kd b)) (h0 : b ≠ 0) :
    OpY P ⟨d, .binOp .rem T x y U, ty, pos, af, g⟩ V H (.int kd (a.tmod b)) := y_bin hx hy rfl (fun w => by simp [binOp, Op.intDiv, h0])
def bitAnd (kd : IntKind) (a b : Int) : Int := kd.wrap (BitVec.ofInt kd.bits a &&& BitVec.ofInt kd.bits b).toNat
def bitOr (kd : IntKind) (a b : Int) : Int := kd.wrap (BitVec.ofInt kd.bits a ||| BitVec.ofInt kd.bits b).toNat
def bitXor (kd : IntKind) (a b : Int) : Int := kd.wrap (BitVec.ofInt kd.bits a ^^^ BitVec.ofInt kd.bits b).toNat
theorem y_and {T U : TypeId} {x y : Operand} {kd : IntKind} {a b : Int} (hx : V.ev x = some (.int kd a)) (hy : V.ev y = some (.int kd b)) :
    OpY P ⟨d, .binOp .and T x y U, ty, pos, af, g⟩ V H (.int kd (bitAnd kd a b)) := y_bin hx hy rfl (fun w => by simp [binOp, Op.intBits, bitAnd])
theorem y_or {T U : TypeId} {x y : Operand} {kd : IntKind} {a b : Int} (hx : V.ev x = some (.int kd a)) (hy : V.ev y = some (.int kd b)) :
    OpY P ⟨d, .binOp .or T x y U, ty, pos, af, g⟩ V H (.int kd (bitOr kd a b)) := y_bin hx hy rfl (fun w => by simp [binOp, Op.intBits, bitOr])
theorem y_xor {T U : TypeId} {x y : Operand} {kd : IntKind} {a b : Int} (hx : V.ev x = some (.int kd a)) (hy : V.ev y = some (.int kd b)) :
    OpY P ⟨d, .binOp .xor T x y U, ty, pos, af, g⟩ V H (.int kd (bitXor kd a b)) := y_bin hx hy rfl (fun w => by simp [binOp, Op.intBits, bitXor])
theorem y_shl {T U : TypeId} {x y : Operand} {kd kd' : IntKind} {a b : Int} (hx : V.ev x = some (.int kd a)) (hy : V.ev y = some (.int kd' b)) (h0 : 0 ≤ b) :
    OpY P ⟨d, .binOp .shl T x y U, ty, pos, af, g⟩ V H (.int kd (kd.wrap (a * 2 ^ (min b.toNat kd.bits)))) := y_bin hx hy rfl (fun w => by simp [binOp, Op.shift, Int.not_lt.2 h0])
theorem y_shr {T U : TypeId} {x y : Operand} {kd kd' : IntKind} {a b : Int} (hx : V.ev x = some (.int kd a)) (hy : V.ev y = some (.int kd' b)) (h0 : 0 ≤ b) :
    OpY P ⟨d, .binOp .shr T x y U, ty, pos, af, g⟩ V H (.int kd (a.fdiv (2 ^ (min b.toNat kd.bits)))) := y_bin hx hy rfl (fun w => by simp [binOp, Op.shift, Int.not_lt.2 h0])
theorem beq_dec {α : Type} [BEq α] [LawfulBEq α] [DecidableEq α] (a b : α) : (a == b) = decide (a = b) := by
  by_cases h : a = b <;> simp [h]
/-- a string of bytes -/
def bs (l : List UInt8) : ByteArray := ⟨l.toArray⟩
theorem bs_toList (l : List UInt8) : (bs l).toList = l := by rw [ByteArray.toList_eq]; rfl
theorem bs_of (s : ByteArray) : s = bs s.data.toList := rfl
theorem bs_size (l : List UInt8) : (bs l).size = l.length := by simp [bs, ByteArray.size]
theorem y_eql {T U : TypeId} {x y : Operand} {kd : IntKind} {a b : Int} (hx : V.ev x = some (.int kd a)) (hy : V.ev y = some (.int kd b)) :
    OpY P ⟨d, .binOp .eql T x y U, ty, pos, af, g⟩ V H (.bool (decide (a = b))) := y_bin hx hy rfl (fun w => by simp [binOp, Op.intCmp, beq_dec])
theorem y_neq {T U : TypeId} {x y : Operand} {kd : IntKind} {a b : Int} (hx : V.ev x = some (.int kd a)) (hy : V.ev y = some (.int kd b)) :
    OpY P ⟨d, .binOp .neq T x y U, ty, pos, af, g⟩ V H (.bool (decide (a ≠ b))) := y_bin hx hy rfl (fun w => by simp [binOp, Op.intCmp, bne, beq_dec])
theorem y_lss {T U : TypeId} {x y : Operand} {kd : IntKind} {a b : Int} (hx : V.ev x = some (.int kd a)) (hy : V.ev y = some (.int kd b)) :
    OpY P ⟨d, .binOp .lss T x y U, ty, pos, af, g⟩ V H (.bool (decide (a < b))) := y_bin hx hy rfl (fun w => by simp [binOp, Op.intCmp])
theorem y_leq {T U : TypeId} {x y : Operand} {kd : IntKind} {a b : Int} (hx : V.ev x = some (.int kd a)) (hy : V.ev y = some (.int kd b)) :
    OpY P ⟨d, .binOp .leq T x y U, ty, pos, af, g⟩ V H (.bool (decide (a ≤ b))) := y_bin hx hy rfl (fun w => by simp [binOp, Op.intCmp])
theorem y_gtr {T U : TypeId} {x y : Operand} {kd : IntKind} {a b : Int} (hx : V.ev x = some (.int kd a)) (hy : V.ev y = some (.int kd b)) :
    OpY P ⟨d, .binOp .gtr T x y U, ty, pos, af, g⟩ V H (.bool (decide (b < a))) := y_bin hx hy rfl (fun w => by simp [binOp, Op.intCmp])
theorem y_geq {T U : TypeId} {x y : Operand} {kd : IntKind} {a b : Int} (hx : V.ev x = some (.int kd a)) (hy : V.ev y = some (.int kd b)) :
    OpY P ⟨d, .binOp .geq T x y U, ty, pos, af, g⟩ V H (.bool (decide (b ≤ a))) := y_bin hx hy rfl (fun w => by simp [binOp, Op.intCmp])
theorem y_seql {T U : TypeId} {x y : Operand} {a b : List UInt8} (hx : V.ev x = some (.string (bs a))) (hy : V.ev y = some (.string (bs b))) :
    OpY P ⟨d, .binOp .eql T x y U, ty, pos, af, g⟩ V H (.bool (decide (a = b))) := y_bin hx hy rfl (fun w => by simp [binOp, Op.stringOp, beq_dec, bs_toList])
theorem y_sneq {T U : TypeId} {x y : Operand} {a b : List UInt8} (hx : V.ev x = some (.string (bs a))) (hy : V.ev y = some (.string (bs b))) :
    OpY P ⟨d, .binOp .neq T x y U, ty, pos, af, g⟩ V H (.bool (!decide (a = b))) := y_bin hx hy rfl (fun w => by simp [binOp, Op.stringOp, beq_dec, bs_toList])
theorem y_neg {T : TypeId} {x : Operand} {kd : IntKind} {a : Int} (hx : V.ev x = some (.int kd a)) :
    OpY P ⟨d, .unOp .neg T x, ty, pos, af, g⟩ V H (.int kd (kd.wrap (0 - a))) := by
  intro ρ w o hf _ _; simp [execOp, hf x _ hx, Op.unary, Op.intArith]
theorem y_not {T : TypeId} {x : Operand} {b : Bool} (hx : V.ev x = some (.bool b)) : OpY P ⟨d, .unOp .not T x, ty, pos, af, g⟩ V H (.bool (!b)) := by
  intro ρ w o hf _ _; simp [execOp, hf x _ hx, Op.unary]
theorem y_conv {S T : TypeId} {ds : TypeDesc} {x : Operand} {kd kd' : IntKind} {a : Int} (hS : ∀ w, (underlying S).run P w = .ok ds w) (hT : ∀ w, (underlying T).run P w = .ok (.int kd') w) (hx : V.ev x = some (.int kd a)) :
    OpY P ⟨d, .convert S T x, ty, pos, af, g⟩ V H (.int kd' (kd'.wrap a)) := by
  intro ρ w o hf _ _
  simp [execOp, hf x _ hx, convert, hS, hT, Conv.intToInt]
theorem y_extract {x : Operand} {vs : Array Value} {i : Nat} {v : Value} (hx : V.ev x = some (.tuple vs)) (hv : vs[i]? = some v) : OpY P ⟨d, .extract x i, ty, pos, af, g⟩ V H v := by
  intro ρ w o hf _ _; simp [execOp, hf x _ hx, Instr.extract, hv]
theorem y_fn {x : Operand} {f : FuncId} (hx : V.ev x = some (.func (.func f) #[] #[])) : OpY P ⟨d, .move x, ty, pos, af, g⟩ V H (.func (.func f) #[] #[]) := y_move hx
end pure

end Go.Abs
