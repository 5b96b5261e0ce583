/-
  More for lifted functions: parts of slices and of strings; contracts told anew.
-/
import Derived.Test.YtigiikkenamneaaAbsLift2
namespace Go.Abs
variable {E : Env} {k : List KI} {V : VF} {H : List HA}

theorem Meets.weaken {P : Program} {f : FuncId} {args : List Value} {H : List HA} {post post' : Post} (h : Meets P f args H post) (hp : ∀ v G, post v G → post' v G) : Meets P f args H post' :=
  fun w o hb hs => (h w o hb hs).mono fun _ _ ⟨v, G, o', e, hv, r⟩ => ⟨v, G, o', e, hp v G hv, r⟩

/-- the part of a slice -/
def subS (v : Value) (es l r : Nat) : Value := match v with
  | .slice a _ cap => .slice (if cap = l then a else a.map (·.add (l * es))) (r - l) (cap - l)
  | v => v
theorem turn_sub (m : Nat) {v : Value} {es l r : Nat} {cells : List (List Value)} (hm : H[m]? = some (ro v es cells)) (h1 : l ≤ r) (h2 : r ≤ cells.length) : Turn H (H ++ [ro (subS v es l r) es ((cells.take r).drop l)]) :=
  turn_add fun w o hs => by
    obtain ⟨a, cap, e1, e2, e3, e4, e5⟩ := id (hs m _ hm)
    have h3 := hs m _ hm
    subst e1
    exact SliceIs.sub h3 h1 h2 (by omega) (Nat.le_refl _)
/-- a part of a row of our own, in its place -/
theorem RowIs.sub {w : World} {M : Nat → Prop} {v : Value} {es l r : Nat} {cells : List (List Value)} (h : RowIs w M v es cells) (h1 : l ≤ r) (h2 : r ≤ cells.length) : RowIs w M (subS v es l r) es ((cells.take r).drop l) := by
  rcases h with ⟨⟨a, rfl⟩, rfl⟩ | ⟨b, off, cap, arr, T, fz, rfl, g2, g3, g4, g5, g6, g7, g8, g9, g10⟩
  · simp at h2
    obtain rfl : r = 0 := h2
    obtain rfl : l = 0 := by omega
    exact .inl ⟨⟨a, by simp [subS]⟩, by simp⟩
  · by_cases hc : cap = l
    · have : r = l := by omega
      subst this
      refine .inl ⟨⟨_, by simp only [subS, hc, if_true, Nat.sub_self]; rfl⟩, by simp⟩
    · have hadd : (Addr.add ⟨b, off, none⟩ (l * es)) = ⟨b, off + l * es, none⟩ := by unfold Addr.add; split <;> simp_all
      have hmul : off + cap * es = off + l * es + (cap - l) * es := by rw [Nat.add_assoc, ← Nat.add_mul]; congr 2; omega
      refine .inr ⟨b, off + l * es, cap - l, arr, T, fz, ?_, g2, g3, g4, g5, by rw [g6, hmul], ?_, by omega, fun c hc => g9 c (List.mem_of_mem_take (List.mem_of_mem_drop hc)), ?_⟩
      · simp only [subS, hc, if_false, Option.map_some, hadd]
        congr 1
        simp
        omega
      · simp; omega
      · intro i c hi j x hj
        rw [List.getElem?_drop] at hi
        have hi' : cells[l + i]? = some c := by
          rw [List.getElem?_take] at hi
          split at hi
          · exact hi
          · cases hi
        have := g10 (l + i) c hi' j x hj
        rw [← this]
        congr 1
        rw [Nat.add_mul]; omega
theorem turn_subrow (m : Nat) {v : Value} {es l r : Nat} {cells : List (List Value)} (hm : H[m]? = some (row v es cells)) (h1 : l ≤ r) (h2 : r ≤ cells.length) : Turn H (H.set m (row (subS v es l r) es ((cells.take r).drop l))) :=
  fun w o hb hs => ⟨o, hb, Tr.refl w o, sats_upd (Nat.le_refl _) (fun _ _ _ => ⟨rfl, rfl⟩) hs (RowIs.sub (hs m _ hm) h1 h2)⟩
section
variable {P : Program} {d : Option Nat} {ty : TypeId} {pos : String} {af : Array Edge} {g : Option (Nat × Bool)}
def Bi (V : VF) (x : Option Operand) (dflt : Nat) (n : Int) : Prop := (x = none ∧ n = (dflt : Int)) ∨ ∃ y kd, x = some y ∧ V.ev y = some (.int kd n)
theorem bi0 {dflt : Nat} : Bi V none dflt (dflt : Int) := .inl ⟨rfl, rfl⟩
theorem bi1 {y : Operand} {kd : IntKind} {dflt : Nat} {n : Int} (h : V.ev y = some (.int kd n)) : Bi V (some y) dflt n := .inr ⟨y, kd, rfl, h⟩
theorem Bi.bd {x : Option Operand} {dflt : Nat} {n : Int} (h : Bi V x dflt n) (h0 : 0 ≤ n) : Bd V x dflt n.toNat := by
  rcases h with ⟨rfl, rfl⟩ | ⟨y, kd, rfl, hy⟩
  · exact .inl ⟨rfl, by simp⟩
  · exact .inr ⟨y, kd, rfl, by rw [hy, ← toNat_int h0]⟩
theorem y_slice {T el : TypeId} {x : Operand} {v : Value} {lo hi : Option Operand} {es : Nat} {l r : Int} {cells : List (List Value)} {h : HA} (m : Nat) (hu : ∀ w, (underlying T).run P w = .ok (.slice el) w)
    (hz : ∀ w, (sizeOf el).run P w = .ok es w) (hx : V.ev x = some v) (hm : H[m]? = some h) (hr' : Reads h v es cells) (hl : Bi V lo 0 l) (hr : Bi V hi cells.length r) (h0 : 0 ≤ l) (h1 : l ≤ r) (h2 : r ≤ (cells.length : Int)) :
    OpY P ⟨d, .slice T x lo hi none, ty, pos, af, g⟩ V H (subS v es l.toNat r.toNat) := by
  intro ρ w o hf hbd hs
  obtain ⟨a, cap, e1, e2, e3, e4, e5⟩ := hr'.is w o m (hs m h hm)
  subst e1
  have hrun := run_slice (P := P) (T := T) (w := w) (a := a) (mx := none) hu hz hf (hl.bd h0) (hr.bd (by omega)) rfl (by omega) (by omega) e2
  simp only [Option.map_none] at hrun
  simp [execOp, hf x _ hx, hrun, subS]
theorem bs_extract (s : List UInt8) (l r : Nat) (h1 : l ≤ r) (h2 : r ≤ s.length) : (bs s).extract l r = bs ((s.take r).drop l) := by
  simp only [bs]
  apply ByteArray.ext
  simp [ByteArray.data_extract, List.drop_take]
theorem y_slice_str {T : TypeId} {x : Operand} {s : List UInt8} {lo hi : Option Operand} {l r : Int} (hu : ∀ w, (underlying T).run P w = .ok .string w) (hx : V.ev x = some (.string (bs s))) (hl : Bi V lo 0 l) (hr : Bi V hi s.length r)
    (h0 : 0 ≤ l) (h1 : l ≤ r) (h2 : r ≤ (s.length : Int)) : OpY P ⟨d, .slice T x lo hi none, ty, pos, af, g⟩ V H (.string (bs ((s.take r.toNat).drop l.toNat))) := by
  intro ρ w o hf hbd hs
  have hsz := bs_size s
  have hex := bs_extract s l.toNat r.toNat (by omega) (by omega)
  have hb1 : ∀ (kd : IntKind) (c : BoundsCode), (Instr.sliceBound (.int kd r) s.length c).run P w = .ok r.toNat w := fun kd c => by simp [Instr.sliceBound, asIntOf]; omega
  have hb2 : ∀ (kd : IntKind) (c : BoundsCode), (Instr.sliceBound (.int kd l) r.toNat c).run P w = .ok l.toNat w := fun kd c => by simp [Instr.sliceBound, asIntOf]; omega
  rcases hl with ⟨rfl, rfl⟩ | ⟨y, kd, rfl, hy⟩ <;> rcases hr with ⟨rfl, rfl⟩ | ⟨y', kd', rfl, hy'⟩
  · simp at hex
    simp [execOp, hf x _ hx, Instr.sliceAt, Instr.slice, hu, Instr.sliceBounds, hsz, hex]
  · simp at hex
    simp [execOp, hf x _ hx, Instr.sliceAt, Instr.slice, hu, Instr.sliceBounds, hsz, hf _ _ hy', hb1, hex]
  · simp at hex hb2
    simp [execOp, hf x _ hx, Instr.sliceAt, Instr.slice, hu, Instr.sliceBounds, hsz, hf _ _ hy, hb2, hex]
  · simp [execOp, hf x _ hx, Instr.sliceAt, Instr.slice, hu, Instr.sliceBounds, hsz, hf _ _ hy, hf _ _ hy', hb1, hb2, hex]
theorem map_sub {α : Type} {F : α → List Value} (l : List α) (a b : Nat) : ((l.map F).take b).drop a = ((l.take b).drop a).map F := by rw [List.map_drop, List.map_take]
theorem map_len_le {α : Type} {F : α → List Value} {l : List α} {r : Int} (h : r ≤ (l.length : Int)) : r ≤ ((l.map F).length : Int) := by simpa using h
theorem map_toNat_le {α : Type} {F : α → List Value} {l : List α} {r : Int} (h : r ≤ (l.length : Int)) : r.toNat ≤ (l.map F).length := by simp; omega
end

/-! what stays as it is may become more within a region -/
theorem wpAnyH_mono {P : Program} {md : Region.Mode} {ops : Array Oper} {Q : Exit → Act → World → Prop} {S S' : World → Prop} (h : ∀ w, S' w → S w) : ∀ (fuel : Nat) (listed : Array Bool) (a : Act) (w : World),
    wpAnyH P md ops Q S' fuel listed a w → wpAnyH P md ops Q S fuel listed a w
  | 0, _, _, _, hh => hh
  | fuel + 1, _, _, _, hh => ⟨hh.1, fun i hi => wpOp_mono (fun a' w' ⟨h1, h2⟩ => ⟨h w' h1, wpAnyH_mono h fuel _ a' w' h2⟩) (hh.2 i hi)⟩
theorem any_grow {ops : Array Oper} {listed : Array Bool} {fuel : Nat} {Hs : List HA} (Hs' : List HA) (hsub : Sub Hs' Hs) (hk : AnyL E ops listed fuel k V H Hs') : AnyL E ops listed fuel k V H Hs :=
  fun a w r => wpAnyH_mono (fun w ⟨o, hb, ht, hs⟩ => ⟨o, hb, ht, hsub.sats hs⟩) _ _ _ _ (hk a w r)
end Go.Abs
