/-
  Small lemmas on numbers and lists for the walks.
-/
import Derived.Test.YtigiikkenamneaaAbsCall
namespace Go.Abs

theorem wrap_i64 {x : Int} (h1 : -9223372036854775808 ≤ x) (h2 : x ≤ 9223372036854775807) : IntKind.i64.wrap x = x := by
  unfold IntKind.wrap
  simp only [IntKind.signed, IntKind.bits]
  simp
  omega
theorem wrap_u64 {x : Int} (h1 : 0 ≤ x) (h2 : x ≤ 18446744073709551615) : IntKind.u64.wrap x = x := by
  unfold IntKind.wrap
  simp only [IntKind.signed, IntKind.bits]
  simp
  omega
theorem wrap_u8 (x : Int) : IntKind.u8.wrap x = x % 256 := by
  unfold IntKind.wrap
  simp only [IntKind.signed, IntKind.bits]
  simp
theorem v64 {x : Int} (h1 : -9223372036854775808 ≤ x) (h2 : x ≤ 9223372036854775807) : Value.int .i64 (IntKind.i64.wrap x) = .int .i64 x := by rw [wrap_i64 h1 h2]
theorem vu64 {x : Int} (h1 : 0 ≤ x) (h2 : x ≤ 18446744073709551615) : Value.int .u64 (IntKind.u64.wrap x) = .int .u64 x := by rw [wrap_u64 h1 h2]
/-- the sum of two numbers that are not negative -/
theorem v64n {a b : Nat} (h : a + b ≤ 9223372036854775807) : Value.int .i64 (IntKind.i64.wrap ((a : Int) + (b : Int))) = .int .i64 ((a + b : Nat) : Int) := by
  rw [wrap_i64 (by omega) (by omega)]; rfl
theorem v64m {a b : Nat} (h : a * b ≤ 9223372036854775807) : Value.int .i64 (IntKind.i64.wrap ((a : Int) * (b : Int))) = .int .i64 ((a * b : Nat) : Int) := by
  rw [← Int.natCast_mul, wrap_i64 (by omega) (by omega)]
theorem v64s {a b : Nat} (h : b ≤ a) (h' : a ≤ 9223372036854775807) : Value.int .i64 (IntKind.i64.wrap ((a : Int) - (b : Int))) = .int .i64 ((a - b : Nat) : Int) := by
  rw [← Int.ofNat_sub h, wrap_i64 (by omega) (by omega)]

theorem mapc_get {α : Type} {E : α → List Value} {l : List α} {i : Nat} (h : i < l.length) : (l.map E)[i]? = some (E l[i]) := by
  rw [List.getElem?_map, List.getElem?_eq_getElem h]; rfl
theorem mapc_len {α : Type} (E : α → List Value) (l : List α) : (l.map E).length = l.length := by simp

/-- a list of integers as cells -/
def i64c (l : List Int) : List (List Value) := l.map fun n => [.int .i64 n]
/-- a list of strings as cells -/
def strc (l : List (List UInt8)) : List (List Value) := l.map fun s => [.string (bs s)]
theorem u8c_len (l : List UInt8) : (u8c l).length = l.length := by simp [u8c]
theorem i64c_len (l : List Int) : (i64c l).length = l.length := by simp [i64c]
theorem strc_len (l : List (List UInt8)) : (strc l).length = l.length := by simp [strc]
theorem i64c_ok (l : List Int) : ∀ c ∈ i64c l, c.length = 1 ∧ ∀ u ∈ c, u.oneCell' = true := by
  intro c hc
  simp only [i64c, List.mem_map] at hc
  obtain ⟨b, _, rfl⟩ := hc
  simp [Value.oneCell']
theorem strc_ok (l : List (List UInt8)) : ∀ c ∈ strc l, c.length = 1 ∧ ∀ u ∈ c, u.oneCell' = true := by
  intro c hc
  simp only [strc, List.mem_map] at hc
  obtain ⟨b, _, rfl⟩ := hc
  simp [Value.oneCell']
theorem u8c_get {l : List UInt8} {i : Nat} (h : i < l.length) : (u8c l)[i]? = some [.int .u8 l[i].toNat] := mapc_get h
theorem i64c_get {l : List Int} {i : Nat} (h : i < l.length) : (i64c l)[i]? = some [.int .i64 l[i]] := mapc_get h
theorem strc_get {l : List (List UInt8)} {i : Nat} (h : i < l.length) : (strc l)[i]? = some [.string (bs l[i])] := mapc_get h
theorem u8c_append (a b : List UInt8) : u8c a ++ u8c b = u8c (a ++ b) := by simp [u8c]
theorem i64c_append (a b : List Int) : i64c a ++ i64c b = i64c (a ++ b) := by simp [i64c]
theorem strc_append (a b : List (List UInt8)) : strc a ++ strc b = strc (a ++ b) := by simp [strc]
theorem u8c_sub (l : List UInt8) (a b : Nat) : ((u8c l).take b).drop a = u8c ((l.take b).drop a) := by simp [u8c, List.map_take, List.map_drop]

theorem v_min (k : IntKind) (a b : Nat) : Value.int k (min (a : Int) (b : Int)) = .int k ((min a b : Nat) : Int) := by
  have : min (a : Int) (b : Int) = ((min a b : Nat) : Int) := by omega
  rw [this]
theorem v_max (k : IntKind) (a b : Nat) : Value.int k (max (a : Int) (b : Int)) = .int k ((max a b : Nat) : Int) := by
  have : max (a : Int) (b : Int) = ((max a b : Nat) : Int) := by omega
  rw [this]

variable {V : VF} {H : List HA}
theorem vnil : ∀ x ∈ ([] : List (Nat × Value)), V x.1 = some x.2 := fun _ h => by simp at h
theorem vcons {t : Nat} {v : Value} {l : List (Nat × Value)} (h : V t = some v) (hl : ∀ x ∈ l, V x.1 = some x.2) : ∀ x ∈ (t, v) :: l, V x.1 = some x.2 := by
  intro x hx
  rcases List.mem_cons.1 hx with rfl | hx
  · exact h
  · exact hl x hx
theorem views_roc {v : Value} {es : Nat} {cells : List (List Value)} : Views (roc v es cells) (ro v es cells) false :=
  fun _ _ _ _ _ h _ hp => SliceIs.keep (Nat.le_refl _) (fun b hlt hb => ⟨h b hlt hb, rfl⟩) hp.1
theorem run_equalIn_bool {P : Program} {w : World} {T : TypeId} (hu : ∀ w, (underlying T).run P w = .ok .bool w) (d : Nat) (a b : Bool) : (Op.equalIn (d + 1) T (.bool a) (.bool b)).run P w = .ok (a == b) w := by
  simp [Op.equalIn, hu]
theorem run_equal_bool {P : Program} {w : World} {T : TypeId} (hu : ∀ w, (underlying T).run P w = .ok .bool w) (a b : Bool) : (Op.equal T (.bool a) (.bool b)).run P w = .ok (a == b) w :=
  run_equalIn_bool hu 9999 a b
theorem y_beql {P : Program} {d : Option Nat} {ty : TypeId} {pos : String} {af : Array Edge} {g : Option (Nat × Bool)} {T U : TypeId} {x y : Operand} {a b : Bool} (hu : ∀ w, (underlying T).run P w = .ok .bool w) (hx : V.ev x = some (.bool a)) (hy : V.ev y = some (.bool b)) :
    OpY P ⟨d, .binOp .eql T x y U, ty, pos, af, g⟩ V H (.bool (a == b)) := y_bin hx hy rfl (fun w => by simp [binOp, run_equal_bool hu])
theorem y_bneq {P : Program} {d : Option Nat} {ty : TypeId} {pos : String} {af : Array Edge} {g : Option (Nat × Bool)} {T U : TypeId} {x y : Operand} {a b : Bool} (hu : ∀ w, (underlying T).run P w = .ok .bool w) (hx : V.ev x = some (.bool a)) (hy : V.ev y = some (.bool b)) :
    OpY P ⟨d, .binOp .neq T x y U, ty, pos, af, g⟩ V H (.bool (!(a == b))) := y_bin hx hy rfl (fun w => by simp [binOp, run_equal_bool hu])

/-- another spelling of what a slot holds -/
theorem run_as {E : Env} {k : List KI} {c : Code} (t : Nat) (v v' : Value) (hv : V t = some v) (e : v = v') (h : Run E c k (V.set t v') H) : Run E c k V H := by
  intro a w r
  refine h a w ⟨r.1, r.2.1, ?_, r.2.2.2⟩
  intro u x hx
  rcases VF.set_eq hx with ⟨rfl, rfl⟩ | ⟨_, hx⟩
  · exact e ▸ r.2.2.1 u _ hv
  · exact r.2.2.1 u x hx

end Go.Abs
