/-
  Texts that stand side by side: AbsLift2, AbsLift3, AbsCallX, AbsOps2, AbsNest, AbsCopy, AbsRange, AbsIface, AbsMore2, AbsArrV, AbsPan, AbsRec, AbsByte, AbsByte2, AbsLib, LexShelf, HandL, RecL, AbsRepl.
-/
import Derived.Test.YtgibkdldfnlglaaGreatDoorM0
import Derived.MapKept
import Derived.RecoverIn
import Derived.Lib.AtoiErrMem
import Derived.Lib.Join
import Derived.Lib.Split
import Derived.Lib.AtoiAll
import Derived.Lib.ItoaNum
import Derived.Lib.LaidTab
import Derived.Lib.IndexBytes
import Derived.Below
import Derived.Sort.Grow
import Derived.Deep.Draws
import Derived.Lib.ConvBytes
import Derived.Shelf.Strings.Builder1
import Derived.Shelf.Strings.Builder2
import Derived.Shelf.Strings.OnBuilder
import Derived.Shelf.Small.Strs
import Derived.Shelf.Utf8.RuneCount
import Derived.Shelf.Strconv.Atoi
import Derived.Shelf.Strconv.Itoa0
import Derived.Shelf.Strconv.Itoa1
import Derived.Shelf.LaysM
import Derived.Shelf.Strconv.Itoa2
import Derived.Shelf.Strconv.Itoa3
import Derived.Shelf.Strconv.AtoiErrFast
import Derived.Shelf.Strconv.ParseIntEmpty
import Derived.Shelf.Strconv.AtoiFail
import Derived.Shelf.Strconv.Clone
import Derived.Shelf.Strconv.SyntaxError
import Derived.Shelf.LaysC
import Derived.Shelf.Strconv.ToError
import Derived.Shelf.Strconv.Lower
import Derived.Shelf.Strconv.ParseUint10
import Derived.Shelf.Strconv.ParseUint10Empty
import Derived.Shelf.Strconv.ParseUint10Any
import Derived.Shelf.Strconv.ParseInt10
import Derived.Shelf.Strconv.AtoiLong
import Derived.Shelf.Strconv.AtoiInnerAll
import Derived.Shelf.Strconv.RangeError
import Derived.Shelf.Strconv.ToErrorRange
import Derived.Shelf.Strconv.AtoiAll
import Derived.Shelf.Strconv.ErrVarAll
import Derived.Shelf.Strings.Search1
import Derived.Shelf.Strings.Search2
import Derived.Shelf.Strings.Search3
import Derived.Shelf.Strings.Count
import Derived.Shelf.Strings.Shaped
import Derived.Shelf.Strings.LastIndex
import Derived.Shelf.Strings.Split
import Derived.Shelf.Strings.Fields
import Derived.Shelf.Strings.SplitShaped
import Derived.Shelf.Unicode.Latin
import Derived.Shelf.Strings.RuneCount
import Derived.Shelf.Unicode.Is16White
import Derived.Shelf.Unicode.IsSpaceAny
import Derived.Shelf.Unicode.Is16Any
import Derived.Shelf.Unicode.Is32Any
import Derived.Shelf.Unicode.ExclAny
import Derived.Test.YtgibkdldfnlglaaGreatDoorProg
import Derived.Laws.IdiomStrings
namespace Go.Abs
theorem after_go {S R : Type} {s : S} {k : S → Option R} {r : R} (h : After (.go s) k r) : k s = some r := h
theorem after_stop {S R : Type} {e : R} {k : S → Option R} {r : R} (h : After (.stop e) k r) : e = r := h
def eB8 (b : UInt8) : List Value := [.int .u8 b.toNat]
theorem eB8_ok (n : UInt8) : (eB8 n).length = 1 ∧ ∀ u ∈ eB8 n, u.oneCell' = true := ⟨rfl, fun u h => by simp [eB8] at h; subst h; rfl⟩
def eStr (b : List UInt8) : List Value := [.string (bs b)]
theorem eStr_ok (b : List UInt8) : (eStr b).length = 1 ∧ ∀ u ∈ eStr b, u.oneCell' = true := ⟨rfl, fun u h => by simp [eStr] at h; subst h; rfl⟩
theorem map_set_at {α : Type} {F : α → List Value} {l : List α} {i : Nat} {c : List Value} {y : α} (h : c = F y) : (l.map F).set i c = (l.set i y).map F := by rw [h, List.map_set]

variable {E : Env} {k : List KI} {V : VF} {H : List HA}
section
variable {P : Program} {d : Option Nat} {ty : TypeId} {pos : String} {af : Array Edge} {g : Option (Nat × Bool)}
theorem wrL_length (c : List Value) (j : Nat) (ys : List Value) : (wrL c j ys).length = c.length := by simp [wrL, size_writeAt]
theorem wrL_get (c : List Value) (j : Nat) (ys : List Value) (m : Nat) (h : j + ys.length ≤ c.length) : (wrL c j ys)[m]? = if j ≤ m ∧ m < j + ys.length then ys[m - j]? else c[m]? := by
  have := get_writeAt ys c.toArray j m (by simpa using h)
  simpa [wrL] using this
/-- a store into an element of a row of the call's own -/
theorem t_store_row {T : TypeId} {x y : Operand} {v r : Value} {es i j n : Nat} {c : List Value} {cells : List (List Value)} (m : Nat) (hz : ∀ w, (sizeOf T).run P w = .ok n w) (hx : V.ev x = some (elemP v (i * es + j))) (hy : V.ev y = some r)
    (hm : H[m]? = some (row v es cells)) (hn : r.cells.size = n) (hc : cells[i]? = some c) (hl : Nat.ble (j + n) es = true) (h1 : ∀ u ∈ r.cells.toList, u.oneCell' = true) :
    OpT P ⟨d, .store T x y, ty, pos, af, g⟩ V H (fun v' H' => v' = undef ∧ H' = H.set m (row v es (cells.set i (wrL c j r.cells.toList)))) := by
  intro ρ w o hf hbd hs
  have hle : j + n ≤ es := Nat.le_of_ble_eq_true hl
  rcases hs m _ hm with ⟨_, h0⟩ | ⟨b, off, cap, arr, T', fz, e1, e2, e3, e4, e5, e6, e7, e8, e9, e10⟩
  · rw [h0] at hc; simp at hc
  have hlt : i < cells.length := (List.getElem?_eq_some_iff.1 hc).1
  have hce := e9 c (List.mem_of_getElem? hc)
  have hroom : off + (i * es + j) + r.cells.toList.length ≤ arr.size := by
    rw [e6, Array.length_toList, hn]
    have : (i + 1) * es ≤ cap * es := Nat.mul_le_mul_right _ (by omega)
    rw [Nat.succ_mul] at this; omega
  obtain ⟨w', h2, h3⟩ := run_storeCells (P := P) r.cells.toList 0 arr w e4 e5 (off := off + (i * es + j)) (by omega) h1
  have hrun : (execOp ρ ⟨d, .store T x y, ty, pos, af, g⟩).run P w = .ok .skip w' := by
    subst e1
    simp [execOp, hf x _ hx, hf y _ hy, Instr.storeAt, Instr.sureAddr, elemP, Value.sbase, storeVar, hz, hn, h2]
  unfold Does
  rw [hrun]
  refine ⟨_, o, ⟨rfl, rfl⟩, fun b' hb' => hbd b' (by rw [h3.size] at hb'; exact hb'), ⟨h3.os, h3.tape, h3.output, by rw [h3.size]; exact Nat.le_refl _, fun b' hlt hb' => ⟨hb', h3.other b' ?_⟩, fun b' hlt hb' => ⟨hb', h3.other b' ?_⟩⟩, ?_⟩
  · rintro rfl; rw [e2] at hb'; cases hb'
  · rintro rfl; rw [e2] at hb'; cases hb'
  · refine sats_upd (by rw [h3.size]; exact Nat.le_refl _) (fun b' hlt hb' => ⟨rfl, h3.other b' ?_⟩) hs (.inr ⟨b, off, cap, _, T', fz, by rw [List.length_set]; exact e1, e2, by rw [h3.size]; exact e3, h3.here, by rw [size_writeAt]; exact e5, by rw [size_writeAt]; exact e6,
      by rw [List.length_set]; exact e7, e8, ?_, ?_⟩)
    · rintro rfl; exact hb' e2
    · intro c' hc'
      rcases List.mem_or_eq_of_mem_set hc' with h | rfl
      · exact e9 c' h
      · rw [wrL_length]; exact hce
    · intro i' c' hi' j' x' hj'
      rw [Nat.add_zero, get_writeAt _ _ _ _ hroom]
      rw [Array.length_toList, hn]
      by_cases hii : i = i'
      · subst hii
        rw [List.getElem?_set_self hlt] at hi'
        simp at hi'
        subst hi'
        rw [wrL_get _ _ _ _ (by rw [Array.length_toList, hn, hce]; exact hle), Array.length_toList, hn] at hj'
        by_cases hjj : j ≤ j' ∧ j' < j + n
        · rw [if_pos hjj] at hj'
          rw [if_pos (by omega)]
          rw [← hj']; congr 1; omega
        · rw [if_neg hjj] at hj'
          rw [if_neg (by omega)]
          exact e10 i c hc j' x' hj'
      · rw [List.getElem?_set_ne hii] at hi'
        have hjl : j' < es := by
          have h1 := (List.getElem?_eq_some_iff.1 hj').1
          rw [e9 c' (List.mem_of_getElem? hi')] at h1; exact h1
        have : ¬ (off + (i * es + j) ≤ off + i' * es + j' ∧ off + i' * es + j' < off + (i * es + j) + n) := by
          rintro ⟨ha, hb⟩
          rcases Nat.lt_or_ge i i' with h | h
          · have : (i + 1) * es ≤ i' * es := Nat.mul_le_mul_right _ h
            rw [Nat.succ_mul] at this; omega
          · have : (i' + 1) * es ≤ i * es := Nat.mul_le_mul_right _ (by omega)
            rw [Nat.succ_mul] at this; omega
        rw [if_neg this]
        exact e10 i' c' hi' j' x' hj'
end

/-! a region whose order is open -/
def SH (E : Env) (Hs : List HA) (w : World) : Prop := ∃ o, Bnd w o ∧ Tr E.w0 E.o0 w o ∧ Sats w o Hs
def Sub (H Hs : List HA) : Prop := ∀ (j : Nat) (h : HA), Hs[j]? = some h → (∀ w o k, h.p w o k) ∨ H[j]? = some h
theorem sub_nil {H : List HA} : Sub H [] := fun j h hj => by simp at hj
theorem sub_same {H Hs : List HA} {h : HA} (r : Sub H Hs) : Sub (h :: H) (h :: Hs) := fun j x hj => by
  cases j with
  | zero => exact .inr hj
  | succ j => exact r j x hj
theorem sub_emp {H Hs : List HA} {h : HA} (r : Sub H Hs) : Sub (h :: H) (HA.emp :: Hs) := fun j x hj => by
  cases j with
  | zero => simp at hj; subst hj; exact .inl fun _ _ _ => trivial
  | succ j => exact r j x hj
theorem Sub.sats {Hs : List HA} {w : World} {o : Own} (h : Sub H Hs) (hs : Sats w o H) : Sats w o Hs := fun j x hj => (h j x hj).elim (fun h => h w o j) (fun h => hs j x h)
def AnyL (E : Env) (ops : Array Oper) (listed : Array Bool) (fuel : Nat) (k : List KI) (V : VF) (H Hs : List HA) : Prop :=
  ∀ a w, Rel E V H a w → wpAnyI E.r E.P ops (Qof E k) (SH E Hs) fuel listed a w
def AnyO (E : Env) (ops : Array Oper) (listed : Array Bool) (fuel : Nat) (k : List KI) (V : VF) (H Hs : List HA) (i : Nat) : Prop :=
  ∀ a w, Rel E V H a w → wpOpI E.r E.P ops (Qof E k) i (fun a' w' => SH E Hs w' ∧ wpAnyI E.r E.P ops (Qof E k) (SH E Hs) fuel (listed.setIfInBounds i true) a' w') a w

theorem Qof_panic (hbl : E.blind = true) {d : Option Nat} {v : Value} : ∀ (k : List KI) (c : List PanicEntry) (a : Act) (w : World), Qof E k (.panic c) (a.put d v) w → Qof E k (.panic c) a w
  | [], c, a, w, h => E.np hbl c a d v w h
  | .code _ :: k, c, a, w, h => Qof_panic hbl k c a w h
  | .blk _ :: k, c, a, w, h => Qof_panic hbl k c a w h
  | .scope :: k, c, a, w, h => Qof_panic hbl k c a w h
  | .loop _ :: k, c, a, w, h => Qof_panic hbl k c a w h

theorem run_drawany {id : Nat} {l : List Oper} (Hs : List HA) (hm : E.P.follows .mixedOrders = true) (h : AnyL E l.toArray (Array.replicate l.length false) l.length k V H Hs) (hnd : noDef E.r l.toArray = true := by exact rfl) : Run E (.region id l.toArray true) k V H := by
  intro a w r
  refine wpAnyI_in (S := SH E Hs) hnd hm ?_
  have := h a _ r.drew
  simpa using this

variable {ops : Array Oper} {op : Oper} {listed : Array Bool} {fuel : Nat} {Hs : List HA}
theorem any_y {v : Value} (i : Nat) (hi : ops[i]? = some op) (hs : Region.noSelect ops = true) (hf : Region.free .any ops listed i = true) (hr : (Region.ready .any ops listed).contains i = true) (hsub : Sub H Hs)
    (hw : Wants E.n ops V op) (hd : inB E.n op.dst = true) (h : OpY E.P op V Hs v) (hk : AnyL E ops (listed.setIfInBounds i true) fuel k (V.put op.dst v) H Hs) (hbl : E.blind = true := by exact rfl) : AnyL E ops listed (fuel + 1) k V H Hs := by
  intro a w r
  have hS : SH E Hs w := by
    obtain ⟨_, _, _, o, hb, ht, hst⟩ := r
    exact ⟨o, hb, ht.tr, hsub.sats hst⟩
  refine wpAnyI_take hi hs hf hr (fun c a w hq => Qof_panic hbl k c a w hq) (.inl ⟨hw.wanted r, fun w' ⟨o, hb, ht, hst⟩ => h a.eval w' o r.fits hb hst⟩) hS ?_
  obtain ⟨h1, h2, h3, o, hb, ht, hst⟩ := r
  exact hk _ w (Rel.put h1 h2 h3 hd hb ht (Tr.refl w o) hst)
theorem any_no (i : Nat) (hi : ops[i]? = some op) (hs : Region.noSelect ops = true) (hf : Region.free .any ops listed i = true) (hr : (Region.ready .any ops listed).contains i = true) (hsub : Sub H Hs)
    (j : Nat) (b : Bool) (t : Nat) (hg : op.guard = some (j, b)) (hj : ((ops[j]?).bind (·.dst)) = some t) (hv : V t = some (.bool (!b))) (ht : Nat.blt t E.n = true) (hd : inB E.n op.dst = true)
    (hk : AnyL E ops (listed.setIfInBounds i true) fuel k (V.put op.dst undef) H Hs) (hbl : E.blind = true := by exact rfl) : AnyL E ops listed (fuel + 1) k V H Hs := by
  intro a w r
  have hS : SH E Hs w := by
    obtain ⟨_, _, _, o, hb, ht, hst⟩ := r
    exact ⟨o, hb, ht.tr, hsub.sats hst⟩
  have h2 := getD_some r.1 ht (r.2.2.1 t _ hv)
  refine wpAnyI_take hi hs hf hr (fun c a w hq => Qof_panic hbl k c a w hq) (.inr ⟨by cases b <;> simp [Region.wanted, hg, yielded, hj, h2], rfl⟩) hS ?_
  obtain ⟨h1, h2, h3, o, hb, ht, hst⟩ := r
  exact hk _ w (Rel.put h1 h2 h3 hd hb ht (Tr.refl w o) hst)
theorem any_all (rs : List Nat) (hr : Region.ready .any ops listed = rs) (hne : rs.isEmpty = false) (h : ∀ i ∈ rs, AnyO E ops listed fuel k V H Hs i) : AnyL E ops listed (fuel + 1) k V H Hs := by
  intro a w r
  exact wpAnyI_all hr (by rintro rfl; simp at hne) fun i hi => h i hi a w r
theorem anyo_nil : ∀ i ∈ ([] : List Nat), AnyO E ops listed fuel k V H Hs i := fun i hi => by simp at hi
theorem anyo_cons {i : Nat} {rs : List Nat} (h : AnyO E ops listed fuel k V H Hs i) (hr : ∀ j ∈ rs, AnyO E ops listed fuel k V H Hs j) : ∀ j ∈ i :: rs, AnyO E ops listed fuel k V H Hs j := by
  intro j hj
  rcases List.mem_cons.1 hj with rfl | hj
  · exact h
  · exact hr j hj
theorem any_t {post : Post} {i : Nat} (hi : ops[i]? = some op) (hw : Wants E.n ops V op) (hd : inB E.n op.dst = true) (h : OpT E.P op V H post)
    (hk : ∀ v H', post v H' → Sub H' Hs ∧ AnyL E ops (listed.setIfInBounds i true) fuel k (V.put op.dst v) H' Hs) : AnyO E ops listed fuel k V H Hs i := by
  intro a w r
  unfold wpOpI
  simp only [hi]
  rw [if_pos (hw.wanted r)]
  have hf := r.fits
  obtain ⟨h1, h2, h3, o, hb, ht, hs⟩ := r
  have := h a.eval w o hf hb hs
  unfold Does at this
  generalize (execOp a.eval op).run E.P w = x at *
  cases x with
  | halt x w' => simp at this
  | ok nx w' =>
    cases nx <;> simp only [Oper.uponIn] at this ⊢
    case value v =>
      obtain ⟨H', o', hp, hb', ht', hs'⟩ := this
      exact ⟨⟨o', hb', ht.tr.trans ht', (hk v H' hp).1.sats hs'⟩, (hk v H' hp).2 _ _ (Rel.put h1 h2 h3 hd hb' ht ht' hs')⟩
    case skip =>
      obtain ⟨H', o', hp, hb', ht', hs'⟩ := this
      exact ⟨⟨o', hb', ht.tr.trans ht', (hk _ H' hp).1.sats hs'⟩, (hk _ H' hp).2 _ _ (Rel.put h1 h2 h3 hd hb' ht ht' hs')⟩
    case enter f args =>
      refine ⟨(fun h => nomatch h), CallsIn.mono (F := FR E.r) (callsIn_wide.2 this) ?_⟩
      rintro e w'' ⟨v, rfl, H', o', hp, hb', ht', hs'⟩
      exact ⟨⟨o', hb', ht.tr.trans ht', (hk v H' hp).1.sats hs'⟩, (hk v H' hp).2 _ _ (Rel.put h1 h2 h3 hd hb' ht ht' hs')⟩
theorem any_nil (hr : Region.ready .any ops listed = []) (h : Goes E k V H) : AnyL E ops listed fuel k V H Hs := fun a w r => wpAnyI_done hr (h a w r) fuel
theorem any_turn {H' : List HA} (h : Turn H H') (hk : AnyL E ops listed fuel k V H' Hs) : AnyL E ops listed fuel k V H Hs := fun a w r => hk a w (r.turn h)
theorem any_split (t : Nat) (b : Bool) (hv : V t = some (.bool b)) (ht : b = true → AnyL E ops listed fuel k (V.set t (.bool true)) H Hs)
    (hf : b = false → AnyL E ops listed fuel k (V.set t (.bool false)) H Hs) : AnyL E ops listed fuel k V H Hs := by
  have same : ∀ c, b = c → ∀ a, Agree V a → Agree (V.set t (.bool c)) a := by
    intro c hc a ha u x hx
    rcases VF.set_eq hx with ⟨rfl, rfl⟩ | ⟨_, hx⟩
    · exact hc ▸ ha u _ hv
    · exact ha u x hx
  intro a w r
  cases hb : b with
  | true => exact ht hb a w ⟨r.1, r.2.1, same _ hb a r.2.2.1, r.2.2.2⟩
  | false => exact hf hb a w ⟨r.1, r.2.1, same _ hb a r.2.2.1, r.2.2.2⟩
end Go.Abs
namespace Go.Abs
variable {E : Env} {k : List KI} {V : VF} {H : List HA}
end Go.Abs
namespace Go.Abs
variable {E : Env} {k : List KI} {V : VF} {H : List HA} {ops : Array Oper} {listed : Array Bool} {fuel : Nat} {Hs : List HA}
end Go.Abs
namespace Go.Abs
variable {E : Env} {k : List KI} {V : VF} {H : List HA} {ops : Array Oper} {listed : Array Bool} {fuel : Nat} {Hs : List HA}
theorem any_weak {listed' : Array Bool} (l : List (Nat × Value)) (is : List Nat) (G : List HA) (hL : listed = listed') (hl : ∀ x ∈ l, V x.1 = some x.2) (hn : is.Nodup) (hG : Picks is H G)
    (h : AnyL E ops listed' fuel k (VF.of l) G Hs) : AnyL E ops listed fuel k V H Hs := by
  subst hL
  exact fun a w r => h a w ((r.vle (VF.le_of l hl)).pick hn hG)
theorem any_cut {fuel0 : Nat} {listed0 : Array Bool} (listed : Array Bool) (fuel : Nat) (S : Type) (Vi : S → List (Nat × Value)) (Hi : S → List HA) (inv : S → Prop)
    (h1 : (∀ s, inv s → AnyL E ops listed fuel k (VF.of (Vi s)) (Hi s) Hs) → AnyL E ops listed0 fuel0 k V H Hs)
    (h2 : ∀ s, inv s → AnyL E ops listed fuel k (VF.of (Vi s)) (Hi s) Hs) : AnyL E ops listed0 fuel0 k V H Hs := h1 h2
end Go.Abs
namespace Go.Abs
variable {E : Env} {k : List KI} {V : VF} {H : List HA} {ops : Array Oper} {listed : Array Bool} {fuel : Nat} {Hs : List HA}
theorem Rel.slc {a : Act} {w : World} (m : Nat) {h : HA} {v : Value} {es : Nat} {cells : List (List Value)} (hm : H[m]? = some h) (hr : Reads h v es cells) (q : Rel E V H a w) : v.cells = #[v] ∧ v.oneCell' = true := by
  obtain ⟨h1, h2, h3, o, hb, ht, hs⟩ := q
  obtain ⟨x, cap, e, _⟩ := hr.is w o m (hs m h hm)
  rw [e]; exact ⟨rfl, rfl⟩
theorem ops_slc {l : List Oper} (m : Nat) {h : HA} {v : Value} {es : Nat} {cells : List (List Value)} (hm : H[m]? = some h) (hr : Reads h v es cells) (hk : v.cells = #[v] → v.oneCell' = true → Ops E ops l k V H) : Ops E ops l k V H :=
  fun a w q => hk (q.slc m hm hr).1 (q.slc m hm hr).2 a w q
end Go.Abs
namespace Go.Abs
variable {E : Env} {k : List KI} {V : VF} {H : List HA}

/-- the part of a slice -/
def subS (v : Value) (es l r : Nat) : Value := match v with
  | .slice a _ cap => .slice (if cap = l then a else a.map (·.add (l * es))) (r - l) (cap - l)
  | v => v
theorem turn_sub (m : Nat) {v : Value} {es l r : Nat} {cells : List (List Value)} (hm : H[m]? = some (ro v es cells)) (h1 : l ≤ r) (h2 : r ≤ cells.length) : Turn H (H ++ [ro (subS v es l r) es ((cells.take r).drop l)]) :=
  turn_add fun w o hs => by
    obtain ⟨a, cap, e1, e2, e3, e4, e5⟩ := id (hs m _ hm)
    have h3 := hs m _ hm
    subst e1
    exact SliceIs.sub h3 h1 h2 (by omega) (Nat.le_refl _)
/-- a part of a row of our own, in its place -/
theorem RowIs.sub {w : World} {M : Nat → Prop} {v : Value} {es l r : Nat} {cells : List (List Value)} (h : RowIs w M v es cells) (h1 : l ≤ r) (h2 : r ≤ cells.length) : RowIs w M (subS v es l r) es ((cells.take r).drop l) := by
  rcases h with ⟨⟨a, rfl⟩, rfl⟩ | ⟨b, off, cap, arr, T, fz, rfl, g2, g3, g4, g5, g6, g7, g8, g9, g10⟩
  · simp at h2
    obtain rfl : r = 0 := h2
    obtain rfl : l = 0 := by omega
    exact .inl ⟨⟨a, by simp [subS]⟩, by simp⟩
  · by_cases hc : cap = l
    · have : r = l := by omega
      subst this
      refine .inl ⟨⟨_, by simp only [subS, hc, if_true, Nat.sub_self]; rfl⟩, by simp⟩
    · have hadd : (Addr.add ⟨b, off, none⟩ (l * es)) = ⟨b, off + l * es, none⟩ := by unfold Addr.add; split <;> simp_all
      have hmul : off + cap * es = off + l * es + (cap - l) * es := by rw [Nat.add_assoc, ← Nat.add_mul]; congr 2; omega
      refine .inr ⟨b, off + l * es, cap - l, arr, T, fz, ?_, g2, g3, g4, g5, by rw [g6, hmul], ?_, by omega, fun c hc => g9 c (List.mem_of_mem_take (List.mem_of_mem_drop hc)), ?_⟩
      · simp only [subS, hc, if_false, Option.map_some, hadd]
        congr 1
        simp
        omega
      · simp; omega
      · intro i c hi j x hj
        rw [List.getElem?_drop] at hi
        have hi' : cells[l + i]? = some c := by
          rw [List.getElem?_take] at hi
          split at hi
          · exact hi
          · cases hi
        have := g10 (l + i) c hi' j x hj
        rw [← this]
        congr 1
        rw [Nat.add_mul]; omega
section
variable {P : Program} {d : Option Nat} {ty : TypeId} {pos : String} {af : Array Edge} {g : Option (Nat × Bool)}
def Bi (V : VF) (x : Option Operand) (dflt : Nat) (n : Int) : Prop := (x = none ∧ n = (dflt : Int)) ∨ ∃ y kd, x = some y ∧ V.ev y = some (.int kd n)
theorem bi0 {dflt : Nat} : Bi V none dflt (dflt : Int) := .inl ⟨rfl, rfl⟩
theorem bi1 {y : Operand} {kd : IntKind} {dflt : Nat} {n : Int} (h : V.ev y = some (.int kd n)) : Bi V (some y) dflt n := .inr ⟨y, kd, rfl, h⟩
theorem Bi.bd {x : Option Operand} {dflt : Nat} {n : Int} (h : Bi V x dflt n) (h0 : 0 ≤ n) : Bd V x dflt n.toNat := by
  rcases h with ⟨rfl, rfl⟩ | ⟨y, kd, rfl, hy⟩
  · exact .inl ⟨rfl, by simp⟩
  · exact .inr ⟨y, kd, rfl, by rw [hy, ← toNat_int h0]⟩
theorem y_slice {T el : TypeId} {x : Operand} {v : Value} {lo hi : Option Operand} {es : Nat} {l r : Int} {cells : List (List Value)} {h : HA} (m : Nat) (hu : ∀ w, (underlying T).run P w = .ok (.slice el) w)
    (hz : ∀ w, (sizeOf el).run P w = .ok es w) (hx : V.ev x = some v) (hm : H[m]? = some h) (hr' : Reads h v es cells) (hl : Bi V lo 0 l) (hr : Bi V hi cells.length r) (h0 : 0 ≤ l) (h1 : l ≤ r) (h2 : r ≤ (cells.length : Int)) :
    OpY P ⟨d, .slice T x lo hi none, ty, pos, af, g⟩ V H (subS v es l.toNat r.toNat) := by
  intro ρ w o hf hbd hs
  obtain ⟨a, cap, e1, e2, e3, e4, e5⟩ := hr'.is w o m (hs m h hm)
  subst e1
  have hrun := run_slice (P := P) (T := T) (w := w) (a := a) (mx := none) hu hz hf (hl.bd h0) (hr.bd (by omega)) rfl (by omega) (by omega) e2
  simp only [Option.map_none] at hrun
  simp [execOp, hf x _ hx, hrun, subS]
theorem bs_extract (s : List UInt8) (l r : Nat) (h1 : l ≤ r) (h2 : r ≤ s.length) : (bs s).extract l r = bs ((s.take r).drop l) := by
  simp only [bs]
  apply ByteArray.ext
  simp [ByteArray.data_extract, List.drop_take]
theorem y_slice_str {T : TypeId} {x : Operand} {s : List UInt8} {lo hi : Option Operand} {l r : Int} (hu : ∀ w, (underlying T).run P w = .ok .string w) (hx : V.ev x = some (.string (bs s))) (hl : Bi V lo 0 l) (hr : Bi V hi s.length r)
    (h0 : 0 ≤ l) (h1 : l ≤ r) (h2 : r ≤ (s.length : Int)) : OpY P ⟨d, .slice T x lo hi none, ty, pos, af, g⟩ V H (.string (bs ((s.take r.toNat).drop l.toNat))) := by
  intro ρ w o hf hbd hs
  have hsz := bs_size s
  have hex := bs_extract s l.toNat r.toNat (by omega) (by omega)
  have hb1 : ∀ (kd : IntKind) (c : BoundsCode), (Instr.sliceBound (.int kd r) s.length c).run P w = .ok r.toNat w := fun kd c => by simp [Instr.sliceBound, asIntOf]; omega
  have hb2 : ∀ (kd : IntKind) (c : BoundsCode), (Instr.sliceBound (.int kd l) r.toNat c).run P w = .ok l.toNat w := fun kd c => by simp [Instr.sliceBound, asIntOf]; omega
  rcases hl with ⟨rfl, rfl⟩ | ⟨y, kd, rfl, hy⟩ <;> rcases hr with ⟨rfl, rfl⟩ | ⟨y', kd', rfl, hy'⟩
  · simp at hex
    simp [execOp, hf x _ hx, Instr.sliceAt, Instr.slice, hu, Instr.sliceBounds, hsz, hex]
  · simp at hex
    simp [execOp, hf x _ hx, Instr.sliceAt, Instr.slice, hu, Instr.sliceBounds, hsz, hf _ _ hy', hb1, hex]
  · simp at hex hb2
    simp [execOp, hf x _ hx, Instr.sliceAt, Instr.slice, hu, Instr.sliceBounds, hsz, hf _ _ hy, hb2, hex]
  · simp [execOp, hf x _ hx, Instr.sliceAt, Instr.slice, hu, Instr.sliceBounds, hsz, hf _ _ hy, hf _ _ hy', hb1, hb2, hex]
theorem map_sub {α : Type} {F : α → List Value} (l : List α) (a b : Nat) : ((l.map F).take b).drop a = ((l.take b).drop a).map F := by rw [List.map_drop, List.map_take]
theorem map_len_le {α : Type} {F : α → List Value} {l : List α} {r : Int} (h : r ≤ (l.length : Int)) : r ≤ ((l.map F).length : Int) := by simpa using h
theorem map_toNat_le {α : Type} {F : α → List Value} {l : List α} {r : Int} (h : r ≤ (l.length : Int)) : r.toNat ≤ (l.map F).length := by simp; omega
end

/-! what stays as it is may become more within a region -/
end Go.Abs
namespace Go.Abs
variable {E : Env} {k : List KI} {V : VF} {H : List HA}

/-- how an assertion of the caller's is handed to the callee: 0 seen as it is, 1 looked into, 2 lent -/
def ownX (sh : List (Nat × Nat)) (o : Own) : Own := fun b => match o b with
  | .mine m => match sh.findIdx? (fun s => s.2 == 2 && s.1 == m) with
    | some j => .mine j
    | none => if sh.any (fun s => s.2 == 1 && s.1 == m) then .no else .far
  | x => x
def okX (sh : List (Nat × Nat)) : Bool := (List.range sh.length).all fun j => match sh[j]? with
  | some (m, mode) => if mode == 2 then sh.findIdx? (fun s => s.2 == 2 && s.1 == m) == some j else
      if mode == 1 then (sh.findIdx? (fun s => s.2 == 2 && s.1 == m)).isNone else true
  | none => true
def ShowsX (H : List HA) (sh : List (Nat × Nat)) (Hc : List HA) : Prop :=
  sh.length = Hc.length ∧ ∀ (j m mode : Nat) (h : HA), sh[j]? = some (m, mode) → Hc[j]? = some h → ∃ h', H[m]? = some h' ∧ (if mode = 2 then h' = h else Views h' h (mode == 1))
theorem showsX_nil : ShowsX H [] [] := ⟨rfl, fun j m mode h hj => by simp at hj⟩
theorem showsX_view {sh : List (Nat × Nat)} {Hc : List HA} {h' h : HA} (m : Nat) (hm : H[m]? = some h') (hv : Views h' h false) (hr : ShowsX H sh Hc) : ShowsX H ((m, 0) :: sh) (h :: Hc) := by
  refine ⟨by simp [hr.1], fun j m' mode x hj hx => ?_⟩
  cases j with
  | zero => simp at hj hx; obtain ⟨rfl, rfl⟩ := hj; subst hx; exact ⟨h', hm, hv⟩
  | succ j => exact hr.2 j m' mode x (by simpa using hj) (by simpa using hx)
theorem showsX_look {sh : List (Nat × Nat)} {Hc : List HA} {h' h : HA} (m : Nat) (hm : H[m]? = some h') (hv : Views h' h true) (hr : ShowsX H sh Hc) : ShowsX H ((m, 1) :: sh) (h :: Hc) := by
  refine ⟨by simp [hr.1], fun j m' mode x hj hx => ?_⟩
  cases j with
  | zero => simp at hj hx; obtain ⟨rfl, rfl⟩ := hj; subst hx; exact ⟨h', hm, hv⟩
  | succ j => exact hr.2 j m' mode x (by simpa using hj) (by simpa using hx)
theorem showsX_lend {sh : List (Nat × Nat)} {Hc : List HA} {h : HA} (m : Nat) (hm : H[m]? = some h) (hr : ShowsX H sh Hc) : ShowsX H ((m, 2) :: sh) (h :: Hc) := by
  refine ⟨by simp [hr.1], fun j m' mode x hj hx => ?_⟩
  cases j with
  | zero => simp at hj hx; obtain ⟨rfl, rfl⟩ := hj; subst hx; exact ⟨h, hm, rfl⟩
  | succ j => exact hr.2 j m' mode x (by simpa using hj) (by simpa using hx)
/-- what is lent is the caller's no more -/
def lentOut (sh : List (Nat × Nat)) (H : List HA) : List HA := sh.foldl (fun H s => if s.2 == 2 then H.set s.1 HA.emp else H) H
theorem lentOut_length : ∀ (sh : List (Nat × Nat)) (H : List HA), (lentOut sh H).length = H.length
  | [], H => rfl
  | s :: sh, H => by
    unfold lentOut
    rw [List.foldl_cons]
    have := lentOut_length sh (if s.2 == 2 then H.set s.1 HA.emp else H)
    unfold lentOut at this
    rw [this]; split <;> simp
theorem lentOut_get : ∀ (sh : List (Nat × Nat)) (H : List HA) (m : Nat) (h : HA), (lentOut sh H)[m]? = some h → h = HA.emp ∨ (H[m]? = some h ∧ ∀ s ∈ sh, s.2 = 2 → s.1 ≠ m)
  | [], H, m, h, hm => .inr ⟨hm, by simp⟩
  | s :: sh, H, m, h, hm => by
    unfold lentOut at hm
    rw [List.foldl_cons] at hm
    rcases lentOut_get sh _ m h hm with h1 | ⟨h1, h2⟩
    · exact .inl h1
    · by_cases hs : s.2 = 2
      · simp only [hs, beq_self_eq_true, if_true] at h1
        by_cases he : s.1 = m
        · left
          subst he
          rw [List.getElem?_set] at h1
          simp at h1
          exact h1.2.symm
        · rw [List.getElem?_set_ne he] at h1
          exact .inr ⟨h1, fun x hx h3 => by
            rcases List.mem_cons.1 hx with rfl | hx
            · exact he
            · exact h2 x hx h3⟩
      · have : (s.2 == 2) = false := by simpa using hs
        simp only [this] at h1
        exact .inr ⟨h1, fun x hx h3 => by
          rcases List.mem_cons.1 hx with rfl | hx
          · exact absurd h3 hs
          · exact h2 x hx h3⟩

theorem t_callx {P : Program} {d : Option Nat} {ty : TypeId} {pos : String} {af : Array Edge} {g : Option (Nat × Bool)} {fx : Operand} {f : FuncId} {xs : Array Operand} {Ts : Array TypeId} {vs cs : List Value} {Hc : List HA} {post : Post}
    (sh : List (Nat × Nat)) (hfx : V.ev fx = some (.func (.func f) #[] cs.toArray)) (hcall : ∀ args w, (callFunc f args).run P w = .ok (.enter f args) w)
    (hxs : xs.toList.map V.ev = vs.map some) (hc : Meets P f (vs ++ cs) Hc post) (hsh : ShowsX H sh Hc) (hok : okX sh = true)
    (hst : (sh.all fun s => s.2 != 1) = true ∨ ∀ v G, post v G → ∀ g ∈ G, g.Strict) :
    OpT P ⟨d, .call ⟨.value fx, xs, Ts⟩, ty, pos, af, g⟩ V H (fun v' H' => ∃ G, post v' G ∧ H' = lentOut sh H ++ G) := by
  intro ρ w o hf hbd hs
  have hargs : (xs.map ρ) = vs.toArray := by
    apply Array.ext'
    rw [Array.toList_map]
    generalize xs.toList = l at hxs
    clear hc
    induction l generalizing vs with
    | nil => cases vs <;> simp_all
    | cons x r ih =>
      cases vs with
      | nil => simp at hxs
      | cons v vs =>
        simp only [List.map_cons, List.cons.injEq] at hxs ⊢
        exact ⟨hf _ _ hxs.1, ih hxs.2⟩
  have hrun : (execOp ρ ⟨d, .call ⟨.value fx, xs, Ts⟩, ty, pos, af, g⟩).run P w = .ok (.enter f (vs ++ cs).toArray) w := by
    simp [execOp, resolve, invoke, Deferred.ofValue, hf fx _ hfx, hargs, hcall]
  unfold Does
  rw [hrun]
  have hoc : ∀ b, o b = .no → ownX sh o b = .no := fun b hb => by simp [ownX, hb]
  have hall := List.all_eq_true.1 hok
  have hfar : ∀ b, o b = .far → ownX sh o b = .far := fun b hb => by simp [ownX, hb]
  -- who holds a block of the caller's own during the call
  have hmine : ∀ b m, o b = .mine m → (∃ j, sh.findIdx? (fun s => s.2 == 2 && s.1 == m) = some j ∧ ownX sh o b = .mine j) ∨
      (sh.findIdx? (fun s => s.2 == 2 && s.1 == m) = none ∧ ((ownX sh o b = .no ∧ (sh.any fun s => s.2 == 1 && s.1 == m) = true) ∨ ownX sh o b = .far)) := by
    intro b m hb
    simp only [ownX, hb]
    cases hfi : sh.findIdx? (fun s => s.2 == 2 && s.1 == m) with
    | some j => exact .inl ⟨j, rfl, rfl⟩
    | none =>
      right
      refine ⟨rfl, ?_⟩
      simp only []
      split
      · rename_i h; exact .inl ⟨rfl, h⟩
      · exact .inr rfl
  refine (hc w (ownX sh o) (fun b hb => hoc b (hbd b hb)) ?_).mono ?_
  · intro j h hj
    have hlt : j < sh.length := by rw [hsh.1]; exact (List.getElem?_eq_some_iff.1 hj).1
    obtain ⟨⟨m, mode⟩, hsj⟩ : ∃ s, sh[j]? = some s := ⟨_, List.getElem?_eq_getElem hlt⟩
    obtain ⟨h', hm, hv⟩ := hsh.2 j m mode h hsj hj
    have hchk := hall j (by simp [hlt])
    rw [hsj] at hchk
    simp only at hchk
    by_cases h2 : mode = 2
    · subst h2
      simp only [if_true] at hv
      subst hv
      simp only [beq_self_eq_true, if_true, beq_iff_eq] at hchk
      exact h'.keep (Nat.le_refl _) (fun b _ hb => ⟨by simp only [ownX, hb, hchk], rfl⟩) (fun b _ hb => ⟨hoc b hb, rfl⟩) (hs _ h' hm)
    · rw [if_neg h2] at hv
      refine hv w o _ _ j (fun b _ => hoc b) (fun hl b _ hb => ?_) (hs _ h' hm)
      have h1 : mode = 1 := by simpa using hl
      subst h1
      simp only [show ((1 : Nat) == 2) = false from rfl, beq_self_eq_true, if_true, Bool.false_eq_true, if_false, Option.isNone_iff_eq_none] at hchk
      rcases hmine b m hb with ⟨j', hj', _⟩ | ⟨_, h3 | h3⟩
      · rw [hchk] at hj'; cases hj'
      · exact h3.1
      · exfalso
        simp only [ownX, hb] at h3
        rw [hchk] at h3
        simp only at h3
        rw [if_pos (List.any_eq_true.2 ⟨(m, 1), List.mem_of_getElem? hsj, by simp⟩)] at h3
        cases h3
  · rintro e w' ⟨v, G, o', rfl, hp, hb', ht, hs'⟩
    let o2 : Own := fun b => if b < w.heap.size then (match o b with
        | .mine m => if (sh.findIdx? (fun s => s.2 == 2 && s.1 == m)).isSome then (match o' b with | .mine j => .mine (H.length + j) | _ => .no) else .mine m
        | x => x) else match o' b with | .mine j => .mine (H.length + j) | _ => .no
    -- what is not lent is as it was
    have keepb : ∀ b, b < w.heap.size → (∀ m, o b = .mine m → sh.findIdx? (fun s => s.2 == 2 && s.1 == m) = none) → o2 b = o b ∧ w'.heap[b]? = w.heap[b]? := by
      intro b hlt hnl
      cases hob : o b with
      | no => exact ⟨by simp [o2, hlt, hob], (ht.no b hlt (hoc b hob)).2⟩
      | far => exact ⟨by simp [o2, hlt, hob], (ht.far b hlt (hfar b hob)).2⟩
      | mine m =>
        have hn := hnl m hob
        refine ⟨by simp [o2, hlt, hob, hn], ?_⟩
        rcases hmine b m hob with ⟨j, hj, _⟩ | ⟨_, h3 | h3⟩
        · rw [hn] at hj; cases hj
        · exact (ht.no b hlt h3.1).2
        · exact (ht.far b hlt h3).2
    have hG : ∀ j b, o' b = .mine j → o2 b = .mine (H.length + j) := by
      intro j b he
      by_cases hlt : b < w.heap.size
      · cases hob : o b with
        | no => have := (ht.no b hlt (hoc b hob)).1; rw [he] at this; cases this
        | far => have := (ht.far b hlt (hfar b hob)).1; rw [he] at this; cases this
        | mine m =>
          rcases hmine b m hob with ⟨j', hj', _⟩ | ⟨hn, h3 | h3⟩
          · simp [o2, hlt, hob, hj', he]
          · have := (ht.no b hlt h3.1).1; rw [he] at this; cases this
          · have := (ht.far b hlt h3).1; rw [he] at this; cases this
      · simp [o2, hlt, he]
    refine ⟨v, rfl, lentOut sh H ++ G, o2, ⟨G, hp, rfl⟩, ?_, ?_, ?_⟩
    · intro b hle
      have hsz := ht.size
      have : ¬ b < w.heap.size := by omega
      simp [o2, this, hb' b hle]
    · refine ⟨ht.os, ht.tape, ht.output, ht.size, fun b hlt hb => ?_, fun b hlt hb => ?_⟩
      · have := keepb b hlt (fun m hm => by rw [hb] at hm; cases hm)
        exact ⟨this.1.trans hb, this.2⟩
      · have := keepb b hlt (fun m hm => by rw [hb] at hm; cases hm)
        exact ⟨this.1.trans hb, this.2⟩
    · intro j h hj
      rw [List.getElem?_append] at hj
      split at hj
      · rename_i hlt0
        rcases lentOut_get sh H j h hj with rfl | ⟨hj1, hj2⟩
        · trivial
        · refine h.keep ht.size (fun b hlt hb => ?_) (fun b hlt hb => ?_) (hs j h hj1)
          · have := keepb b hlt (fun m hm => by
              rw [hb] at hm; injection hm with hm; subst hm
              rw [List.findIdx?_eq_none_iff]
              intro s hsm
              by_cases h2 : s.2 = 2
              · have := hj2 s hsm h2; simp [this]
              · simp [h2])
            exact ⟨this.1.trans hb, this.2⟩
          · have := keepb b hlt (fun m hm => by rw [hb] at hm; cases hm)
            exact ⟨this.1.trans hb, this.2⟩
      · rename_i hge
        rw [lentOut_length] at hge hj
        have hjj : H.length + (j - H.length) = j := by omega
        have hp' := hs' _ h hj
        rcases hst with hst | hst
        · refine h.keep (Nat.le_refl _) (fun b _ hb => ⟨by rw [hG _ b hb, hjj], rfl⟩) (fun b hlt hb => ⟨?_, rfl⟩) hp'
          by_cases hlt' : b < w.heap.size
          · cases hob : o b with
            | no => simp [o2, hlt', hob]
            | far => have := (ht.far b hlt' (hfar b hob)).1; rw [hb] at this; cases this
            | mine m =>
              rcases hmine b m hob with ⟨j', hj', _⟩ | ⟨hn, h3 | h3⟩
              · simp [o2, hlt', hob, hj', hb]
              · exfalso
                obtain ⟨s, hsm, hs2⟩ := List.any_eq_true.1 h3.2
                have := List.all_eq_true.1 hst s hsm
                simp at this hs2
                exact this hs2.1
              · have := (ht.far b hlt' h3).1; rw [hb] at this; cases this
          · simp [o2, hlt', hb]
        · have hgm : h ∈ G := List.mem_of_getElem? hj
          exact hst v G hp h hgm w' o' _ o2 j (fun b _ hb => by rw [hG _ b hb, hjj]) hp'
end Go.Abs
namespace Go.Abs
set_option linter.unusedSimpArgs false
variable {E : Env} {k : List KI} {V : VF} {H : List HA}
section
variable {P : Program} {d : Option Nat} {ty : TypeId} {pos : String} {af : Array Edge} {g : Option (Nat × Bool)}
theorem y_makeFunc {f : FuncId} {caps : Array Operand} {vs : List Value} (h : caps.toList.map V.ev = vs.map some) : OpY P ⟨d, .makeFunc (.func f) #[] caps, ty, pos, af, g⟩ V H (.func (.func f) #[] vs.toArray) := by
  intro ρ w o hf _ _
  have : caps.map ρ = vs.toArray := by
    apply Array.ext'
    rw [Array.toList_map]
    generalize caps.toList = l at h
    induction l generalizing vs with
    | nil => cases vs <;> simp_all
    | cons x r ih =>
      cases vs with
      | nil => simp at h
      | cons v vs =>
        simp only [List.map_cons, List.cons.injEq] at h ⊢
        exact ⟨hf _ _ h.1, ih h.2⟩
  simp [execOp, Instr.makeFunc, this]

theorem rep_len (n : Nat) (c : List Value) : (List.replicate n c).flatten.length = n * c.length := by
  induction n with
  | zero => simp
  | succ n ih => rw [List.replicate_succ, List.flatten_cons, List.length_append, ih, Nat.succ_mul, Nat.add_comm]
theorem rep_flat (n : Nat) (z : Array Value) (hz : z.size ≠ 0) : (Array.range (n * z.size)).map (z[· % z.size]!) = (List.replicate n z.toList).flatten.toArray := by
  have hl : (List.replicate n z.toList).flatten.length = n * z.size := by rw [rep_len]; simp
  apply Array.ext_getElem?
  intro i
  by_cases hi : i < n * z.size
  · have h1 : i % z.size < z.size := Nat.mod_lt _ (by omega)
    have h2 : i / z.size < n := Nat.div_lt_of_lt_mul (by rw [Nat.mul_comm]; exact hi)
    have := flat_at (es := z.size) (List.replicate n z.toList) (by intro c hc; rw [List.eq_of_mem_replicate hc]; simp) (i / z.size) (i % z.size) z.toList z[i % z.size] (by simp [h2]) (by simp [h1])
    rw [Nat.mul_comm, Nat.div_add_mod] at this
    have e2 : ((List.replicate n z.toList).flatten.toArray)[i]? = some z[i % z.size] := by simpa using this
    rw [e2]
    simp [hi, h1]
  · rw [Array.getElem?_eq_none (by simp; omega), Array.getElem?_eq_none (by rw [List.size_toArray]; omega)]
/-- a new slice of zeros -/
theorem t_makeSlice {T el : TypeId} {z : Value} {ti : TypeInfo} {x y : Operand} {n : Int} {es : Nat} (hu : ∀ w, (underlying T).run P w = .ok (.slice el) w) (hti : ∀ w, (typeInfo el).run P w = .ok ti w) (hes : ti.size = es) (h0 : ∀ w, (zeroValue el).run P w = .ok z w)
    (hzs : z.cells.size = es) (hpos : es ≠ 0) (hx : V.ev x = some (.int .i64 n)) (hy : V.ev y = some (.int .i64 n)) (hn0 : 0 ≤ n) (hn1 : n ≤ 4294967296) (hb : ti.bytes ≤ 16384) :
    OpT P ⟨d, .makeSlice T x y, ty, pos, af, g⟩ V H (fun v' H' => H' = H ++ [row v' es (List.replicate n.toNat z.cells.toList)]) := by
  intro ρ w o hf hbd hs
  have hw : IntKind.i64.wrap n = n := wrap_i64 (by omega) (by omega)
  have hsz : ∀ w, (sizeOf el).run P w = .ok es w := fun w => by simp [sizeOf, hti, hes]
  have hbn : (ti.bytes : Int) * n ≤ 16384 * 4294967296 := by
    have h1 : (ti.bytes : Int) * n ≤ 16384 * n := Int.mul_le_mul_of_nonneg_right (by omega) hn0
    omega
  have hbig : ¬ (281474976710656 : Int) < (ti.bytes : Int) * n := by omega
  have hroom : ¬ roomBytes < n.toNat * ti.bytes := by
    have h1 : n.toNat * ti.bytes ≤ 4294967296 * 16384 := Nat.mul_le_mul (by omega) hb
    have h2 : 4294967296 * 16384 ≤ roomBytes := by unfold roomBytes; decide
    omega
  have hfl := rep_flat n.toNat z.cells (by omega)
  rw [hzs] at hfl
  have hcells : (if n.toNat * es = 0 then (Array.range (n.toNat * es)).map ((#[] : Array Value)[· % (#[] : Array Value).size]!) else (Array.range (n.toNat * es)).map (z.cells[· % z.cells.size]!)) = (List.replicate n.toNat z.cells.toList).flatten.toArray := by
    split
    · rename_i h
      have : n.toNat = 0 := by rcases Nat.mul_eq_zero.1 h with h | h <;> omega
      simp [this]
    · rw [hzs]; exact hfl
  have hrun : (execOp ρ ⟨d, .makeSlice T x y, ty, pos, af, g⟩).run P w = .ok (.value (.slice (some ⟨w.heap.size, 0, none⟩) n.toNat n.toNat)) { w with heap := w.heap.push (.cells (List.replicate n.toNat z.cells.toList).flatten.toArray el) } := by
    by_cases hne : n.toNat * es = 0
    · rw [if_pos hne] at hcells
      simp [execOp, Instr.makeSlice, hf x _ hx, hf y _ hy, hu, asInt, asIntOf, hti, hw, hbig, Int.not_lt.2 hn0, askRoom, hroom, hsz, hne, newRow]
      rw [← hcells, hne]; simp
    · rw [if_neg hne] at hcells
      simp [execOp, Instr.makeSlice, hf x _ hx, hf y _ hy, hu, asInt, asIntOf, hti, hw, hbig, Int.not_lt.2 hn0, askRoom, hroom, hsz, hne, h0, newRow]
      rw [← hcells]
  unfold Does
  rw [hrun]
  have hn' := nw_push w (.cells (List.replicate n.toNat z.cells.toList).flatten.toArray el) w.drawn
  have hall : ∀ c ∈ List.replicate n.toNat z.cells.toList, c.length = es := fun c hc => by rw [List.eq_of_mem_replicate hc, Array.length_toList, hzs]
  have hrow : RowIs { w with heap := w.heap.push (.cells (List.replicate n.toNat z.cells.toList).flatten.toArray el) } (fun b => addOwn o w.heap.size H.length b = .mine H.length) (.slice (some ⟨w.heap.size, 0, none⟩) n.toNat n.toNat) es (List.replicate n.toNat z.cells.toList) := by
    refine .inr ⟨w.heap.size, 0, n.toNat, (List.replicate n.toNat z.cells.toList).flatten.toArray, el, (0, 0), by simp, by simp [addOwn], by simp, by simp, .inl (Nat.le_refl _), ?_, by simp, by unfold maxLen; omega, hall, ?_⟩
    · rw [List.size_toArray, rep_len]; simp [hzs]
    · intro i c hi j x hj
      rw [Nat.zero_add]
      simpa using flat_at _ hall i j c x hi hj
  obtain ⟨h1, h2, h3⟩ := sats_new (g := row (.slice (some ⟨w.heap.size, 0, none⟩) n.toNat n.toNat) es (List.replicate n.toNat z.cells.toList)) hbd hn' hs hrow
  exact ⟨_, _, rfl, h1, h2, h3⟩
theorem map_rep {α : Type} {F : α → List Value} {n : Nat} {c : List Value} {a : α} (h : c = F a) : List.replicate n c = (List.replicate n a).map F := by rw [h, List.map_replicate]
end

/-! maps -/
section
variable {P : Program} {d : Option Nat} {ty : TypeId} {pos : String} {af : Array Edge} {g : Option (Nat × Bool)} {κ β : Type} [DecidableEq κ]
end
end Go.Abs
namespace Go.Abs
set_option linter.unusedSimpArgs false
set_option linter.unusedVariables false
variable {E : Env} {k : List KI} {V : VF} {H : List HA}
/-- an assertion that hangs on what nobody writes, and on nothing else -/
def Free (a : HA) : Prop := ∀ w o o' k k', (∀ b, b < w.heap.size → o b = .no → o' b = .no) → a.p w o k → a.p w o' k'
theorem Free.at {a : HA} (h : Free a) : ∀ w o k k', a.p w o k → a.p w o k' := fun w o k k' => h w o o k k' fun _ _ h => h
theorem views_free {a : HA} (h : Free a) : Views a a false := fun w o m oc j h1 _ hp => h w o oc m j h1 hp

/-- how an element with slices in it is laid into cells: g, the slices' values; S, what is behind them -/
structure NC (α : Type) where
  G : Type
  es : Nat
  F : α → G → List Value
  S : α → G → List HA
  free : ∀ x g, ∀ h ∈ S x g, Free h
  ok : ∀ x g w o k, (∀ h ∈ S x g, h.p w o k) → (F x g).length = es ∧ ∀ u ∈ F x g, u.oneCell' = true
  /-- what is only read and empty is nil -/
  nn : Bool := false

def HsP (L : List HA) (w : World) (o : Own) (k : Nat) : Prop := ∀ h ∈ L, h.p w o k
theorem HsP.keep {L : List HA} {w w' : World} {o o' : Own} {k k' : Nat} (hs : w.heap.size ≤ w'.heap.size) (h1 : ∀ b, b < w.heap.size → o b = .mine k → o' b = .mine k' ∧ w'.heap[b]? = w.heap[b]?)
    (h2 : ∀ b, b < w.heap.size → o b = .no → o' b = .no ∧ w'.heap[b]? = w.heap[b]?) (h : HsP L w o k) : HsP L w' o' k' := fun x hx => x.keep hs h1 h2 (h x hx)
theorem HsP.free {L : List HA} (hL : ∀ h ∈ L, Free h) {w : World} {o o' : Own} {k k' : Nat} (ho : ∀ b, b < w.heap.size → o b = .no → o' b = .no) (h : HsP L w o k) : HsP L w o' k' :=
  fun x hx => hL x hx w o o' k k' ho (h x hx)
section
variable {α : Type} {C : NC α} {v : Value} {l : List α}
def NC.cs (C : NC α) (lg : List (α × C.G)) : List (List Value) := lg.map fun p => C.F p.1 p.2
end

/-! facts with a witness -/
section
variable {γ : Type} {K : γ → List HA} {ops : Array Oper} {listed : Array Bool} {fuel : Nat} {Hs : List HA}
end
/-! an element of a slice that nobody writes -/
section
variable {α : Type} {C : NC α} {v : Value} {l : List α}
section
variable {P : Program} {d : Option Nat} {ty : TypeId} {pos : String} {af : Array Edge} {g : Option (Nat × Bool)}
/-! what is behind a list of elements is known -/
/-! writes -/
theorem Free.tr {h : HA} (hF : Free h) {w w' : World} {o o' : Own} (ht : Tr w o w' o') (k0 k1 : Nat) (hh : h.p w o k0) : h.p w' o' k1 :=
  (hF.at w' o' 0 k1) (HA.keep h ht.size (k := k0) (k' := 0) (o := fun b => match o b with | .no => .no | _ => .far) (o' := o') (fun b _ hb => by split at hb <;> cases hb) (fun b hlt hb => ht.no b hlt (by
    split at hb
    · assumption
    · cases hb)) (hF w o _ k0 k0 (fun b _ hb => by simp [hb]) hh))
theorem HsP.tr {L : List HA} (hL : ∀ h ∈ L, Free h) {w w' : World} {o o' : Own} (ht : Tr w o w' o') {k0 : Nat} (k1 : Nat) (h : HsP L w o k0) : HsP L w' o' k1 := fun x hx => (hL x hx).tr ht k0 k1 (h x hx)
theorem Does.imp {P : Program} {s : Sem Next} {w : World} {D D' : Value → World → Prop} (h : Does P s w D) (hd : ∀ v w', D v w' → D' v w') : Does P s w D' := by
  unfold Does at h ⊢
  generalize s.run P w = x at *
  cases x with
  | halt x w' => simp at h
  | ok nx w' =>
    cases nx <;> simp only [] at h ⊢
    case value v => exact hd _ _ h
    case skip => exact hd _ _ h
    case enter f args => exact h.mono fun e w'' ⟨v, e1, h1⟩ => ⟨v, e1, hd _ _ h1⟩
end
end

/-! a slice's value lies in one cell -/
section
variable {ops : Array Oper} {listed : Array Bool} {fuel : Nat} {Hs : List HA} {h : HA} {v : Value} {es n : Nat}
end
section
variable {P : Program} {d : Option Nat} {ty : TypeId} {pos : String} {af : Array Edge} {g : Option (Nat × Bool)}
end
theorem oy {ops : Array Oper} {op : Oper} {rest : List Oper} {v : Value} (hw : op.guard = none) (hd : inB E.n op.dst = true) (h : OpY E.P op V H v)
    (hk : Ops E ops rest k (V.put op.dst v) H) : Ops E ops (op :: rest) k V H := ops_y (wn hw) hd h hk
theorem ot {ops : Array Oper} {op : Oper} {rest : List Oper} {post : Post} (hw : op.guard = none) (hd : inB E.n op.dst = true) (h : OpT E.P op V H post)
    (hk : ∀ v H', post v H' → Ops E ops rest k (V.put op.dst v) H') : Ops E ops (op :: rest) k V H := ops_t (wn hw) hd h hk
theorem sy {ops : Array Oper} {op : Oper} {rest : List Oper} {v : Value} (hw : op.guard = none) (hd : inB E.n op.dst = true) (h : OpY E.P op V H v)
    (hk : StillL E ops rest k (V.put op.dst v) H) : StillL E ops (op :: rest) k V H := still_y (wn hw) hd h hk
theorem ss {H Hs : List HA} {h : HA} (r : Sub H Hs) : Sub (h :: H) (h :: Hs) := sub_same r
theorem se {H Hs : List HA} {h : HA} (r : Sub H Hs) : Sub (h :: H) (HA.emp :: Hs) := sub_emp r
theorem sn {H : List HA} : Sub H [] := sub_nil
end Go.Abs
namespace Go.Abs
variable {E : Env} {k : List KI} {V : VF} {H : List HA}
theorem put_defers {a : Act} {d : Option Nat} {v : Value} : (a.put d v).defers = a.defers := by cases d <;> rfl
/-- the block that a ghost names -/
def blk (v : Value) : Nat := (Value.sbase v).block
end Go.Abs
namespace Go.Abs
set_option linter.unusedSimpArgs false
set_option linter.unusedVariables false
variable {E : Env} {k : List KI} {V : VF} {H : List HA}
def SrcP (P : Program) (H : List HA) (v : Value) (es : Nat) (new : List (List Value)) : Prop :=
  (∀ c ∈ new, c.length = es ∧ ∀ u ∈ c, u.oneCell' = true) ∧
  ∀ w o, Sats w o H → (Builtin.lenOf v).run P w = .ok new.length w ∧ ∀ q, q ≤ new.length → (Builtin.firstCells es q v).run P w = .ok (new.take q).flatten.toArray w
theorem run_firstCellsK {P : Program} {w : World} {B : Nat → Prop} {v : Value} {es : Nat} {cells : List (List Value)} (h : SliceIs w B v es cells) :
    (Builtin.lenOf v).run P w = .ok cells.length w ∧ ∀ q, q ≤ cells.length → (Builtin.firstCells es q v).run P w = .ok (cells.take q).flatten.toArray w := by
  refine ⟨(run_firstCells h).1, fun q hq => ?_⟩
  obtain ⟨a, cap, e1, e2, e3, e4, e5⟩ := id h
  have hl : (cells.take q).length = q := by rw [List.length_take]; omega
  have h' : SliceIs w B (.slice a (cells.take q).length cap) es (cells.take q) := ⟨a, cap, rfl, by omega, e3, e4, fun i c hi => e5 i c (by
    rw [List.getElem?_take] at hi
    split at hi
    · exact hi
    · cases hi)⟩
  have := (run_firstCells (P := P) h').2
  rw [hl] at this
  rw [e1]
  cases a <;> simpa [Builtin.firstCells] using this
theorem srcp_reads {P : Program} {v : Value} {es : Nat} {new : List (List Value)} {h : HA} (m : Nat) (hm : H[m]? = some h) (hr : Reads h v es new)
    (hc : ∀ c ∈ new, c.length = es ∧ ∀ u ∈ c, u.oneCell' = true) : SrcP P H v es new := ⟨hc, fun w o hs => run_firstCellsK (hr.is w o m (hs m h hm))⟩
def cpy {α : Type} (l : List α) (a b : Nat) (new : List α) : List α := l.take a ++ (new.take (b - a) ++ l.drop (a + min new.length (b - a)))
theorem cpy_map {α : Type} {F : α → List Value} (l : List α) (a b : Nat) (new : List α) : cpy (l.map F) a b (new.map F) = (cpy l a b new).map F := by simp [cpy, List.map_take, List.map_drop]
def PartOf (v : Value) (es n : Nat) (vd : Value) (a b : Nat) : Prop := vd = subS v es a b ∨ (vd = v ∧ a = 0 ∧ b = n)
theorem part_sub {v : Value} {es n a b : Nat} : PartOf v es n (subS v es a b) a b := .inl rfl
section
variable {P : Program} {d : Option Nat} {ty : TypeId} {pos : String} {af : Array Edge} {g : Option (Nat × Bool)}
theorem flat_take {es : Nat} {new : List (List Value)} (hn : ∀ c ∈ new, c.length = es) (q : Nat) (hq : q ≤ new.length) : (new.take q).flatten.length = q * es := by
  rw [flat_len (new.take q) (fun c hc => hn c (List.mem_of_mem_take hc)), List.length_take, Nat.min_eq_left hq]
theorem t_copy {Ts : Array TypeId} {T el : TypeId} {es a b : Nat} {x y : Operand} {v vd vy : Value} {cells new : List (List Value)} (m : Nat)
    (hT : Ts[0]? = some T) (hu : ∀ w, (underlying T).run P w = .ok (.slice el) w) (hsz : ∀ w, (sizeOf el).run P w = .ok es w)
    (hx : V.ev x = some vd) (hd : PartOf v es cells.length vd a b) (ha : a ≤ b) (hb : b ≤ cells.length) (hm : H[m]? = some (row v es cells)) (hy : V.ev y = some vy) (hsrc : SrcP P H vy es new) :
    OpT P ⟨d, .call ⟨.builtin .copy, #[x, y], Ts⟩, ty, pos, af, g⟩ V H (fun v' H' => v' = .int .i64 (min new.length (b - a) : Nat) ∧ H' = H.set m (row v es (cpy cells a b new))) := by
  intro ρ w o hf hbd hs
  obtain ⟨hnew, hsrc⟩ := hsrc
  obtain ⟨hn1, hn2⟩ := hsrc w o hs
  obtain ⟨q, hq⟩ : ∃ q, q = min new.length (b - a) := ⟨_, rfl⟩
  have hq1 : q ≤ new.length := by omega
  have hn3 := hn2 q hq1
  have hnu : ∀ c ∈ new, c.length = es := fun c hc => (hnew c hc).1
  have htk : new.take (b - a) = new.take q := by
    rw [hq]; by_cases h : new.length ≤ b - a
    · rw [Nat.min_eq_left h, List.take_of_length_le h, List.take_length]
    · rw [Nat.min_eq_right (by omega)]
  have hcp : cpy cells a b new = cells.take a ++ (new.take q ++ cells.drop (a + q)) := by rw [cpy, htk, ← hq]
  rw [← hq, hcp]
  have hone : ∀ u ∈ (new.take q).flatten, u.oneCell' = true := fun u hu => by
    obtain ⟨c, hc, hu⟩ := List.mem_flatten.1 hu
    exact (hnew c (List.mem_of_mem_take hc)).2 u hu
  -- what dst is
  obtain ⟨base, cap', hvd, hbase⟩ : ∃ base cap', vd = .slice base (b - a) cap' ∧ (0 < b - a → ∀ b0 off cap, v = .slice (some ⟨b0, off, none⟩) cells.length cap → cells.length ≤ cap → base = some ⟨b0, off + a * es, none⟩) := by
    have hsl : ∃ a0 cap, v = .slice a0 cells.length cap := by
      rcases hs m _ hm with ⟨⟨a', r1⟩, r2⟩ | ⟨b0, off, cap, arr, T', fz, r1, _⟩
      · exact ⟨a', 0, by rw [r1, r2]; rfl⟩
      · exact ⟨_, cap, r1⟩
    obtain ⟨a0, cap, hv⟩ := hsl
    rcases hd with rfl | ⟨rfl, rfl, rfl⟩
    · rw [hv]
      refine ⟨_, _, rfl, fun h0 b0 off cap1 hv1 hc1 => ?_⟩
      simp only [Value.slice.injEq] at hv1
      obtain ⟨rfl, _, rfl⟩ := hv1
      rw [if_neg (by omega)]
      have hadd : (Addr.add ⟨b0, off, none⟩ (a * es)) = ⟨b0, off + a * es, none⟩ := by unfold Addr.add; split <;> simp_all
      simp [hadd]
    · rw [hv]
      refine ⟨a0, cap, by simp, fun h0 b0 off cap1 hv1 hc1 => ?_⟩
      simp only [Value.slice.injEq] at hv1
      rw [hv1.1]; simp
  have hrest : ∀ w', (match base with | some ad => storeCells ad (new.take q).flatten | none => pure ()).run P w = .ok () w' → (execOp ρ ⟨d, .call ⟨.builtin .copy, #[x, y], Ts⟩, ty, pos, af, g⟩).run P w = .ok (.value (.int .i64 (q : Nat))) w' := by
    intro w' hw'
    rw [hvd] at hx
    have hmin : Nat.min new.length (b - a) = q := by rw [hq]
    cases base with
    | none =>
      simp at hw'
      subst hw'
      simp [execOp, resolve, invoke, builtin, hf x _ hx, hf y _ hy, Builtin.copy_, hT, hu, hsz, hn1, hmin, hn3, goInt]
    | some ad =>
      simp only at hw'
      simp [execOp, resolve, invoke, builtin, hf x _ hx, hf y _ hy, Builtin.copy_, hT, hu, hsz, hn1, hmin, hn3, goInt, hw']
  by_cases h0 : q = 0
  · -- nothing goes over
    have hr := hrest w (by rw [h0]; cases base <;> simp [storeCells_nil])
    unfold Does
    rw [hr]
    refine ⟨_, o, ⟨by simp, rfl⟩, hbd, Tr.refl w o, sats_upd (Nat.le_refl _) (fun _ _ _ => ⟨rfl, rfl⟩) hs ?_⟩
    have : cells.take a ++ (new.take q ++ cells.drop (a + q)) = cells := by rw [h0]; simp
    rw [this]
    exact hs m _ hm
  · rcases hs m _ hm with ⟨_, r2⟩ | ⟨b0, off, cap, arr, T', fz, r1, r2, r3, r4, r5, r6, r7, r8, r9, r10⟩
    · rw [r2] at hb; simp at hb; omega
    obtain rfl := hbase (by omega) b0 off cap r1 r7
    have hfl := flat_take hnu q hq1
    have hroom : off + a * es + (new.take q).flatten.length ≤ arr.size := by
      rw [hfl, r6, Nat.add_assoc, ← Nat.add_mul]
      exact Nat.add_le_add_left (Nat.mul_le_mul_right _ (by omega)) _
    obtain ⟨w', h2, h3⟩ := run_storeCells (P := P) (new.take q).flatten 0 arr w r4 r5 (off := off + a * es) (by simpa using hroom) hone
    have hr := hrest w' h2
    unfold Does
    rw [hr]
    refine ⟨_, o, ⟨rfl, rfl⟩, fun b' hb' => hbd b' (by rw [h3.size] at hb'; exact hb'), ⟨h3.os, h3.tape, h3.output, by rw [h3.size]; exact Nat.le_refl _, fun b' hlt hb' => ⟨hb', h3.other b' ?_⟩, fun b' hlt hb' => ⟨hb', h3.other b' ?_⟩⟩, ?_⟩
    · rintro rfl; rw [r2] at hb'; cases hb'
    · rintro rfl; rw [r2] at hb'; cases hb'
    · have hlen : (cells.take a ++ (new.take q ++ cells.drop (a + q))).length = cells.length := by simp; omega
      refine sats_upd (by rw [h3.size]; exact Nat.le_refl _) (fun b' hlt hb' => ⟨rfl, h3.other b' ?_⟩) hs (.inr ⟨b0, off, cap, _, T', fz, by rw [hlen]; exact r1, r2, by rw [h3.size]; exact r3, h3.here, by rw [size_writeAt]; exact r5, by rw [size_writeAt]; exact r6,
        by rw [hlen]; exact r7, r8, ?_, ?_⟩)
      · rintro rfl; exact hb' r2
      · intro c hc
        rcases List.mem_append.1 hc with hc | hc
        · exact r9 c (List.mem_of_mem_take hc)
        · rcases List.mem_append.1 hc with hc | hc
          · exact hnu c (List.mem_of_mem_take hc)
          · exact r9 c (List.mem_of_mem_drop hc)
      · intro i c hi j x' hj
        rw [Nat.add_zero, get_writeAt _ _ _ _ hroom, hfl]
        have hcl : c.length = es := by
          have hc := List.mem_of_getElem? hi
          rcases List.mem_append.1 hc with hc | hc
          · exact r9 c (List.mem_of_mem_take hc)
          · rcases List.mem_append.1 hc with hc | hc
            · exact hnu c (List.mem_of_mem_take hc)
            · exact r9 c (List.mem_of_mem_drop hc)
        have hjl : j < es := by have := (List.getElem?_eq_some_iff.1 hj).1; omega
        have hml : ∀ p r : Nat, p + 1 ≤ r → p * es + es ≤ r * es := fun p r h => by rw [← Nat.succ_mul]; exact Nat.mul_le_mul_right _ h
        have haq : (a + q) * es = a * es + q * es := Nat.add_mul _ _ _
        by_cases c1 : i < a
        · rw [List.getElem?_append_left (by simp; omega), List.getElem?_take, if_pos c1] at hi
          have := hml i a c1
          rw [if_neg (by omega)]
          exact r10 i c hi j x' hj
        · rw [List.getElem?_append_right (by simp; omega)] at hi
          have e1 : (cells.take a).length = a := by simp; omega
          rw [e1] at hi
          by_cases c2 : i - a < q
          · rw [List.getElem?_append_left (by simp; omega)] at hi
            have h1 := hml i (a + q) (by omega)
            have h2' : a * es ≤ i * es := Nat.mul_le_mul_right _ (by omega)
            rw [if_pos (by omega)]
            have := flat_at (new.take q) (fun c hc => hnu c (List.mem_of_mem_take hc)) (i - a) j c x' hi hj
            rw [← this]
            congr 1
            rw [Nat.sub_mul]; omega
          · rw [List.getElem?_append_right (by simp; omega)] at hi
            have e2 : (new.take q).length = q := by simp; omega
            rw [e2, List.getElem?_drop, show a + q + (i - a - q) = i by omega] at hi
            have h1 : (a + q) * es ≤ i * es := Nat.mul_le_mul_right _ (by omega)
            rw [if_neg (by omega)]
            exact r10 i c hi j x' hj
/-- told in plain lists -/
theorem t_copyL {α : Type} {F : α → List Value} {l ns : List α} {Ts : Array TypeId} {T el : TypeId} {es a b b2 : Nat} {x y : Operand} {v vd vy : Value} {new : List (List Value)} (m : Nat)
    (hT : Ts[0]? = some T) (hu : ∀ w, (underlying T).run P w = .ok (.slice el) w) (hsz : ∀ w, (sizeOf el).run P w = .ok es w)
    (hx : V.ev x = some vd) (hd : PartOf v es (l.map F).length vd a b) (ha : a ≤ b) (hb : b ≤ l.length) (hm : H[m]? = some (row v es (l.map F))) (hy : V.ev y = some vy) (hsrc : SrcP P H vy es new) (hn : new = ns.map F) (hb2 : b = b2) :
    OpT P ⟨d, .call ⟨.builtin .copy, #[x, y], Ts⟩, ty, pos, af, g⟩ V H (fun v' H' => v' = .int .i64 (min ns.length (b2 - a) : Nat) ∧ H' = H.set m (row v es ((cpy l a b2 ns).map F))) := by
  subst hb2
  have h := t_copy (d := d) (ty := ty) (pos := pos) (af := af) (g := g) m hT hu hsz hx hd ha (by simpa using hb) hm hy hsrc
  subst hn
  rw [cpy_map, List.length_map] at h
  exact h
end
end Go.Abs
namespace Go.Abs
variable {E : Env} {k : List KI} {V : VF} {H : List HA}

/-! a round's ends -/
section
variable {S G : Type} {P : Program} {n l : Nat} {w0 : World} {o0 : Own} {Hs : G → List HA} {jumps : List Code} {j : Option Nat} {body : Code}
end

/-! the statement -/
end Go.Abs
namespace Go.Abs
section
variable {V : VF} {H : List HA} {P : Program} {d : Option Nat} {ty : TypeId} {pos : String} {af : Array Edge} {g : Option (Nat × Bool)}
theorem y_nilBox {x : Operand} {b off : Nat} (hx : V.ev x = some (boxP b off)) : OpY P ⟨d, .nilCheck x, ty, pos, af, g⟩ V H (boxP b off) := by
  intro ρ w o hf _ _
  simp [execOp, hf x _ hx, boxP]
end
end Go.Abs
namespace Go.Abs
end Go.Abs
namespace Go.Abs
section
variable {E : Env} {k : List KI} {V : VF} {H : List HA} {ops : Array Oper} {op : Oper} {listed : Array Bool} {fuel : Nat} {Hs : List HA}
theorem any_ty {v : Value} {i : Nat} (hi : ops[i]? = some op) (hw : Wants E.n ops V op) (hd : inB E.n op.dst = true) (h : OpY E.P op V H v)
    (hk : Sub H Hs ∧ AnyL E ops (listed.setIfInBounds i true) fuel k (V.put op.dst v) H Hs) : AnyO E ops listed fuel k V H Hs i :=
  any_t hi hw hd h.t fun _ _ ⟨e1, e2⟩ => by rw [e1, e2]; exact hk
end
end Go.Abs
namespace Go.Abs
end Go.Abs
namespace Go.Abs
/-- Option.bind under a name of its own (the unifier opens Option.bind too early) -/
def obind {α β : Type} (x : Option α) (f : α → Option β) : Option β := x.bind f
theorem obind_some {α β : Type} {x : Option α} {f : α → Option β} {b : β} (h : obind x f = some b) : ∃ a, x = some a ∧ f a = some b := bind_some h
end Go.Abs
namespace Go.Abs
variable {E : Env} {k : List KI} {V : VF} {H : List HA} {P : Program}
theorem callx_core {f : FuncId} {vs : List Value} {Hc : List HA} {post : Post} (sh : List (Nat × Nat)) (hcall : ∀ args w, (callFunc f args).run P w = .ok (.enter f args) w)
    (hc : Meets P f vs Hc post) (hsh : ShowsX H sh Hc) (hok : okX sh = true) (hst : (sh.all fun s => s.2 != 1) = true ∨ ∀ v G, post v G → ∀ g ∈ G, g.Strict) {w : World} {o : Own} (hbd : Bnd w o) (hs : Sats w o H) :
    Calls P f vs.toArray w (fun e w'' => ∃ v, e = .returned v ∧ ∃ H' o', (∃ G, post v G ∧ H' = lentOut sh H ++ G) ∧ Bnd w'' o' ∧ Tr w o w'' o' ∧ Sats w'' o' H') := by
  have hop := t_callx (P := P) (V := fun _ => none) (d := none) (ty := 0) (pos := "") (af := #[]) (g := none) (fx := .const (.func (.func f) #[] #[])) (xs := (vs.map Operand.const).toArray) (Ts := #[]) (vs := vs) (cs := [])
    sh rfl hcall (by simp [VF.ev, Function.comp_def]) (by simpa using hc) hsh hok hst (fun x => match x with | .const c => c | .global g => .pointer (some ⟨g, 0, none⟩) | .func f => .func (.func f) #[] #[] | .tmp _ => undef) w o
    (fun x v hx => by cases x <;> simp [VF.ev] at hx ⊢ <;> exact hx) hbd hs
  unfold Does at hop
  rw [show (execOp _ ⟨none, .call ⟨.value (.const (.func (.func f) #[] #[])), (vs.map Operand.const).toArray, #[]⟩, 0, "", #[], none⟩).run P w = .ok (.enter f vs.toArray) w by
    simp [execOp, resolve, invoke, Deferred.ofValue, hcall, Function.comp_def]] at hop
  exact hop
section
variable {d : Option Nat} {ty : TypeId} {pos : String} {af : Array Edge} {g : Option (Nat × Bool)}
theorem y_mkIface {T : TypeId} {ds : TypeDesc} {x : Operand} {v : Value} (hu : ∀ w, (underlying T).run P w = .ok ds w) (hni : (match ds with | .interface _ => false | _ => true) = true) (hx : V.ev x = some v) :
    OpY P ⟨d, .makeInterface T x, ty, pos, af, g⟩ V H (.iface T v) := by
  intro ρ w o hf _ _
  cases ds <;> simp at hni <;> simp [execOp, Instr.makeInterface, hu, hf x _ hx]
theorem t_invoke {rx : Operand} {name : String} {T : TypeId} {rv rv' : Value} {f : FuncId} {xs : Array Operand} {Ts : Array TypeId} {vs : List Value} {Hc : List HA} {post : Post}
    (sh : List (Nat × Nat)) (hrx : V.ev rx = some (.iface T rv)) (hm : ∀ n w o, Sats w o H → (method (n + 1) T rv name).run P w = .ok (f, rv') w) (hcall : ∀ args w, (callFunc f args).run P w = .ok (.enter f args) w)
    (hxs : xs.toList.map V.ev = vs.map some) (hc : Meets P f (rv' :: vs) Hc post) (hsh : ShowsX H sh Hc) (hok : okX sh = true)
    (hst : (sh.all fun s => s.2 != 1) = true ∨ ∀ v G, post v G → ∀ g ∈ G, g.Strict) :
    OpT P ⟨d, .call ⟨.invoke rx name, xs, Ts⟩, ty, pos, af, g⟩ V H (fun v' H' => ∃ G, post v' G ∧ H' = lentOut sh H ++ G) := by
  intro ρ w o hf hbd hs
  have hargs : (xs.map ρ) = vs.toArray := by
    apply Array.ext'
    rw [Array.toList_map]
    generalize xs.toList = l at hxs
    clear hc
    induction l generalizing vs with
    | nil => cases vs <;> simp_all
    | cons x r ih =>
      cases vs with
      | nil => simp at hxs
      | cons v vs =>
        simp only [List.map_cons, List.cons.injEq] at hxs ⊢
        exact ⟨hf _ _ hxs.1, ih hxs.2⟩
  have hrun : (execOp ρ ⟨d, .call ⟨.invoke rx name, xs, Ts⟩, ty, pos, af, g⟩).run P w = .ok (.enter f (rv' :: vs).toArray) w := by
    obtain ⟨n, hn⟩ : ∃ n, P.types.size + Made.depth = n + 1 := ⟨P.types.size + (Made.depth - 1), by simp [Made.depth]⟩
    simp [execOp, resolve, invoke, hf rx _ hrx, hargs, callMethod, hn, hm n w o hs, hcall, Sem.run_bind, Result.andThen]
  unfold Does
  rw [hrun]
  exact callx_core sh hcall hc hsh hok hst hbd hs
end
/-- a method with a pointer's receiver, of the pointer's type -/
theorem method_ptr {T el : TypeId} {ti : TypeInfo} {name : String} {f : FuncId} {n : Nat} {v : Value} {m} {w : World} (hti : ∀ w, (typeInfo T).run P w = .ok ti w) (hf : ti.methods.find? (·.name == name) = some m)
    (hp : m.path = #[]) (hm : m.func = some (f, true)) (hu : ∀ w, (underlying T).run P w = .ok (.pointer el) w) : (method (n + 1) T v name).run P w = .ok (f, v) w := by
  unfold method
  simp only [Sem.run_bind, hti, Result.andThen_ok]
  rw [hf]
  simp [hp, follow, hm, receiverAt, hu, Place.get, Sem.run_bind, Result.andThen]
section
variable {d : Option Nat} {ty : TypeId} {pos : String} {af : Array Edge} {g : Option (Nat × Bool)}
theorem y_assert2 {T U : TypeId} {ds : TypeDesc} {x : Operand} {v : Value} (hu : ∀ w, (underlying T).run P w = .ok ds w) (hni : (match ds with | .interface _ => false | _ => true) = true) (hx : V.ev x = some (.iface T v)) :
    OpY P ⟨d, .typeAssert x U T true, ty, pos, af, g⟩ V H (.tuple #[v, .bool true]) := by
  intro ρ w o hf _ _
  cases ds <;> simp at hni <;> simp [execOp, Instr.typeAssert, hu, hf x _ hx]
end
end Go.Abs
namespace Go.Abs
set_option linter.unusedSimpArgs false
variable {V : VF} {H : List HA}
section
variable {P : Program} {d : Option Nat} {ty : TypeId} {pos : String} {af : Array Edge} {g : Option (Nat × Bool)}
theorem y_sadd {T U : TypeId} {x y : Operand} {a b : List UInt8} (hx : V.ev x = some (.string (bs a))) (hy : V.ev y = some (.string (bs b))) (hl : a.length + b.length ≤ 4294967296) :
    OpY P ⟨d, .binOp .add T x y U, ty, pos, af, g⟩ V H (.string (bs (a ++ b))) := y_bin hx hy rfl (fun w => by
      have e : bs a ++ bs b = bs (a ++ b) := by
        apply ByteArray.ext
        simp [bs]
      have h2 : ¬ ((((bs a).size + (bs b).size : Nat) : Int) > IntKind.i64.max) := by
        rw [bs_size, bs_size]
        have : IntKind.i64.max = 9223372036854775807 := by decide
        omega
      simp only [binOp, Op.stringOp, if_neg h2, e]; rfl)
theorem allL_nil {α : Type} {p : α → Prop} : ∀ u ∈ ([] : List α), p u := fun u h => by cases h
theorem allL_cons {α : Type} {p : α → Prop} {a : α} {l : List α} (h : p a) (r : ∀ u ∈ l, p u) : ∀ u ∈ a :: l, p u := fun u hu => by
  rcases List.mem_cons.1 hu with rfl | hu
  · exact h
  · exact r u hu
theorem set_at {α : Type} {l : List α} {i : Nat} {x : α} (h : i < l.length) : (l.set i x)[i]? = some x := by simp [h]
theorem set_lt {α : Type} {l : List α} {i j : Nat} {x : α} (h : i < l.length) : i < (l.set j x).length := by simpa using h
end
theorem bi0m {V : VF} {α : Type} {F : α → List Value} {l : List α} : Bi V none (l.map F).length (l.length : Int) := .inl ⟨rfl, by rw [List.length_map]⟩
end Go.Abs
namespace Go.Abs
open Go.Sem
variable {P : Program} {V : VF} {H : List HA} {d : Option Nat} {ty : TypeId} {pos : String} {af : Array Edge} {g : Option (Nat × Bool)}
theorem y_indexAddr_boxI {T el : TypeId} {x y : Operand} {kd : IntKind} {i : Int} {b off len es : Nat} (hu : ∀ w, (underlying T).run P w = .ok (.array len el) w)
    (hz : ∀ w, (sizeOf el).run P w = .ok es w) (hx : V.ev x = some (boxP b off)) (hy : V.ev y = some (.int kd i)) (hn : 0 ≤ i ∧ i < (len : Int)) :
    OpY P ⟨d, .indexAddr T x y, ty, pos, af, g⟩ V H (boxP b (off + i.toNat * es)) :=
  y_indexAddr_box hu hz hx (by rw [hy, ← toNat_int hn.1]) (by omega)
section
variable {T : Type} {F : T → List Value} {es : Nat}
end
/-! arrays of numbers compared -/
end Go.Abs
namespace Go.Abs
variable {E : Env} {k : List KI} {V : VF} {H : List HA}
def DoesP (P : Program) (s : Sem Next) (w : World) (D Dp : Value → World → Prop) : Prop :=
  match s.run P w with
  | .ok (.enter f args) w' => Calls P f args w' (fun e w'' => (∃ v, e = .returned v ∧ D v w'') ∨ ∃ v, e = .panicked [{ v := v, recovered := false }] ∧ Dp v w'')
  | _ => False
def OpTP (P : Program) (op : Oper) (V : VF) (H : List HA) (post : Post) (pan : Value → Prop) (Hp : List HA) : Prop :=
  ∀ ρ w o, Fits V ρ → Bnd w o → Sats w o H →
    DoesP P (execOp ρ op) w (fun v w' => ∃ H' o', post v H' ∧ Bnd w' o' ∧ Tr w o w' o' ∧ Sats w' o' H') (fun v w' => pan v ∧ ∃ o', Bnd w' o' ∧ Tr w o w' o' ∧ Sats w' o' Hp)
theorem DoesP.semAt {P : Program} {op : Oper} {ρ : Operand → Value} {w : World} {D Dp : Value → World → Prop} (r : Option Nat) (h : DoesP P (execOp ρ op) w D Dp) : op.semAt r ρ = execOp ρ op := by
  refine Oper.semAt_eq r ρ op fun c hc => ?_
  unfold DoesP execOp at h
  rw [hc] at h
  simp only [Sem.run_bind] at h
  cases hx : (resolve ρ c op.type).run P w with
  | halt x w' => simp [hx, Result.andThen] at h
  | ok d w' => simp [hx, Result.andThen] at h
theorem Qof_pan {c : List PanicEntry} : ∀ (k : List KI) (a : Act) (w : World), E.B (.panic c) a w → Qof E k (.panic c) a w
  | [], _, _, q => q
  | .code _ :: k, a, w, q => Qof_pan k a w q
  | .scope :: k, a, w, q => Qof_pan k a w q
  | .loop _ :: k, a, w, q => Qof_pan k a w q
  | .blk _ :: k, a, w, q => Qof_pan k a w q
theorem ops_tp {ops : Array Oper} {op : Oper} {rest : List Oper} {post : Post} {pan : Value → Prop} {Hp : List HA} (hw : Wants E.n ops V op) (hd : inB E.n op.dst = true) (h : OpTP E.P op V H post pan Hp)
    (hk : ∀ v H', post v H' → Ops E ops rest k (V.put op.dst v) H') (hp : ∀ v, pan v → FinP E V Hp v) : Ops E ops (op :: rest) k V H := by
  intro a w r
  unfold wpListIn
  rw [if_pos (hw.wanted r)]
  have hf := r.fits
  obtain ⟨h1, h2, h3, o, hb, ht, hs⟩ := r
  have := h a.eval w o hf hb hs
  unfold Oper.wpIn
  refine ⟨fun _ _ => trivial, ?_⟩
  rw [DoesP.semAt _ this]
  unfold DoesP at this
  generalize (execOp a.eval op).run E.P w = x at *
  cases x with
  | halt x w' => simp at this
  | ok nx w' =>
    cases nx <;> simp only [Oper.uponIn] at this ⊢
    case enter f args =>
      refine ⟨(fun h => nomatch h), CallsIn.mono (F := FR E.r) (callsIn_wide.2 this) ?_⟩
      rintro e w'' (⟨v, rfl, H', o', hp', hb', ht', hs'⟩ | ⟨v, rfl, hv, o', hb', ht', hs'⟩)
      · exact hk v H' hp' _ _ (Rel.put h1 h2 h3 hd hb' ht ht' hs')
      · exact Qof_pan k a w'' (hp v hv a w'' (Rel.put (d := none) (v := undef) h1 h2 h3 rfl hb' ht ht' hs'))
theorem t_callp {P : Program} {d : Option Nat} {ty : TypeId} {pos : String} {af : Array Edge} {g : Option (Nat × Bool)} {fx : Operand} {f : FuncId} {xs : Array Operand} {Ts : Array TypeId} {vs cs : List Value} {Hc : List HA} {post : Post} {pan : Value → Prop}
    (sh : List (Nat × Nat)) (hfx : V.ev fx = some (.func (.func f) #[] cs.toArray)) (hcall : ∀ args w, (callFunc f args).run P w = .ok (.enter f args) w)
    (hxs : xs.toList.map V.ev = vs.map some) (hc : MeetsP P f (vs ++ cs) Hc post pan) (hsh : ShowsX H sh Hc) (hok : okX sh = true)
    (hst : (sh.all fun s => s.2 != 1) = true ∨ ∀ v G, post v G → ∀ g ∈ G, g.Strict) :
    OpTP P ⟨d, .call ⟨.value fx, xs, Ts⟩, ty, pos, af, g⟩ V H (fun v' H' => ∃ G, post v' G ∧ H' = lentOut sh H ++ G) pan (lentOut sh H) := by
  intro ρ w o hf hbd hs
  have hargs : (xs.map ρ) = vs.toArray := by
    apply Array.ext'
    rw [Array.toList_map]
    generalize xs.toList = l at hxs
    clear hc
    induction l generalizing vs with
    | nil => cases vs <;> simp_all
    | cons x r ih =>
      cases vs with
      | nil => simp at hxs
      | cons v vs =>
        simp only [List.map_cons, List.cons.injEq] at hxs ⊢
        exact ⟨hf _ _ hxs.1, ih hxs.2⟩
  have hrun : (execOp ρ ⟨d, .call ⟨.value fx, xs, Ts⟩, ty, pos, af, g⟩).run P w = .ok (.enter f (vs ++ cs).toArray) w := by
    simp [execOp, resolve, invoke, Deferred.ofValue, hf fx _ hfx, hargs, hcall]
  unfold DoesP
  rw [hrun]
  have hoc : ∀ b, o b = .no → ownX sh o b = .no := fun b hb => by simp [ownX, hb]
  have hall := List.all_eq_true.1 hok
  have hfar : ∀ b, o b = .far → ownX sh o b = .far := fun b hb => by simp [ownX, hb]
  -- who holds a block of the caller's own during the call
  have hmine : ∀ b m, o b = .mine m → (∃ j, sh.findIdx? (fun s => s.2 == 2 && s.1 == m) = some j ∧ ownX sh o b = .mine j) ∨
      (sh.findIdx? (fun s => s.2 == 2 && s.1 == m) = none ∧ ((ownX sh o b = .no ∧ (sh.any fun s => s.2 == 1 && s.1 == m) = true) ∨ ownX sh o b = .far)) := by
    intro b m hb
    simp only [ownX, hb]
    cases hfi : sh.findIdx? (fun s => s.2 == 2 && s.1 == m) with
    | some j => exact .inl ⟨j, rfl, rfl⟩
    | none =>
      right
      refine ⟨rfl, ?_⟩
      simp only []
      split
      · rename_i h; exact .inl ⟨rfl, h⟩
      · exact .inr rfl
  have core : ∀ (G : List HA) (w' : World) (o' : Own), ((sh.all fun s => s.2 != 1) = true ∨ ∀ g ∈ G, g.Strict) → Bnd w' o' → Tr w (ownX sh o) w' o' → Sats w' o' G → ∃ o2, Bnd w' o2 ∧ Tr w o w' o2 ∧ Sats w' o2 (lentOut sh H ++ G) := by
    intro G w' o' hst hb' ht hs'
    let o2 : Own := fun b => if b < w.heap.size then (match o b with
        | .mine m => if (sh.findIdx? (fun s => s.2 == 2 && s.1 == m)).isSome then (match o' b with | .mine j => .mine (H.length + j) | _ => .no) else .mine m
        | x => x) else match o' b with | .mine j => .mine (H.length + j) | _ => .no
    -- what is not lent is as it was
    have keepb : ∀ b, b < w.heap.size → (∀ m, o b = .mine m → sh.findIdx? (fun s => s.2 == 2 && s.1 == m) = none) → o2 b = o b ∧ w'.heap[b]? = w.heap[b]? := by
      intro b hlt hnl
      cases hob : o b with
      | no => exact ⟨by simp [o2, hlt, hob], (ht.no b hlt (hoc b hob)).2⟩
      | far => exact ⟨by simp [o2, hlt, hob], (ht.far b hlt (hfar b hob)).2⟩
      | mine m =>
        have hn := hnl m hob
        refine ⟨by simp [o2, hlt, hob, hn], ?_⟩
        rcases hmine b m hob with ⟨j, hj, _⟩ | ⟨_, h3 | h3⟩
        · rw [hn] at hj; cases hj
        · exact (ht.no b hlt h3.1).2
        · exact (ht.far b hlt h3).2
    have hG : ∀ j b, o' b = .mine j → o2 b = .mine (H.length + j) := by
      intro j b he
      by_cases hlt : b < w.heap.size
      · cases hob : o b with
        | no => have := (ht.no b hlt (hoc b hob)).1; rw [he] at this; cases this
        | far => have := (ht.far b hlt (hfar b hob)).1; rw [he] at this; cases this
        | mine m =>
          rcases hmine b m hob with ⟨j', hj', _⟩ | ⟨hn, h3 | h3⟩
          · simp [o2, hlt, hob, hj', he]
          · have := (ht.no b hlt h3.1).1; rw [he] at this; cases this
          · have := (ht.far b hlt h3).1; rw [he] at this; cases this
      · simp [o2, hlt, he]
    refine ⟨o2, ?_, ?_, ?_⟩
    · intro b hle
      have hsz := ht.size
      have : ¬ b < w.heap.size := by omega
      simp [o2, this, hb' b hle]
    · refine ⟨ht.os, ht.tape, ht.output, ht.size, fun b hlt hb => ?_, fun b hlt hb => ?_⟩
      · have := keepb b hlt (fun m hm => by rw [hb] at hm; cases hm)
        exact ⟨this.1.trans hb, this.2⟩
      · have := keepb b hlt (fun m hm => by rw [hb] at hm; cases hm)
        exact ⟨this.1.trans hb, this.2⟩
    · intro j h hj
      rw [List.getElem?_append] at hj
      split at hj
      · rename_i hlt0
        rcases lentOut_get sh H j h hj with rfl | ⟨hj1, hj2⟩
        · trivial
        · refine h.keep ht.size (fun b hlt hb => ?_) (fun b hlt hb => ?_) (hs j h hj1)
          · have := keepb b hlt (fun m hm => by
              rw [hb] at hm; injection hm with hm; subst hm
              rw [List.findIdx?_eq_none_iff]
              intro s hsm
              by_cases h2 : s.2 = 2
              · have := hj2 s hsm h2; simp [this]
              · simp [h2])
            exact ⟨this.1.trans hb, this.2⟩
          · have := keepb b hlt (fun m hm => by rw [hb] at hm; cases hm)
            exact ⟨this.1.trans hb, this.2⟩
      · rename_i hge
        rw [lentOut_length] at hge hj
        have hjj : H.length + (j - H.length) = j := by omega
        have hp' := hs' _ h hj
        rcases hst with hst | hst
        · refine h.keep (Nat.le_refl _) (fun b _ hb => ⟨by rw [hG _ b hb, hjj], rfl⟩) (fun b hlt hb => ⟨?_, rfl⟩) hp'
          by_cases hlt' : b < w.heap.size
          · cases hob : o b with
            | no => simp [o2, hlt', hob]
            | far => have := (ht.far b hlt' (hfar b hob)).1; rw [hb] at this; cases this
            | mine m =>
              rcases hmine b m hob with ⟨j', hj', _⟩ | ⟨hn, h3 | h3⟩
              · simp [o2, hlt', hob, hj', hb]
              · exfalso
                obtain ⟨s, hsm, hs2⟩ := List.any_eq_true.1 h3.2
                have := List.all_eq_true.1 hst s hsm
                simp at this hs2
                exact this hs2.1
              · have := (ht.far b hlt' h3).1; rw [hb] at this; cases this
          · simp [o2, hlt', hb]
        · have hgm : h ∈ G := List.mem_of_getElem? hj
          exact hst h hgm w' o' _ o2 j (fun b _ hb => by rw [hG _ b hb, hjj]) hp'
  refine (hc w (ownX sh o) (fun b hb => hoc b (hbd b hb)) ?_).mono ?_
  · intro j h hj
    have hlt : j < sh.length := by rw [hsh.1]; exact (List.getElem?_eq_some_iff.1 hj).1
    obtain ⟨⟨m, mode⟩, hsj⟩ : ∃ s, sh[j]? = some s := ⟨_, List.getElem?_eq_getElem hlt⟩
    obtain ⟨h', hm, hv⟩ := hsh.2 j m mode h hsj hj
    have hchk := hall j (by simp [hlt])
    rw [hsj] at hchk
    simp only at hchk
    by_cases h2 : mode = 2
    · subst h2
      simp only [if_true] at hv
      subst hv
      simp only [beq_self_eq_true, if_true, beq_iff_eq] at hchk
      exact h'.keep (Nat.le_refl _) (fun b _ hb => ⟨by simp only [ownX, hb, hchk], rfl⟩) (fun b _ hb => ⟨hoc b hb, rfl⟩) (hs _ h' hm)
    · rw [if_neg h2] at hv
      refine hv w o _ _ j (fun b _ => hoc b) (fun hl b _ hb => ?_) (hs _ h' hm)
      have h1 : mode = 1 := by simpa using hl
      subst h1
      simp only [show ((1 : Nat) == 2) = false from rfl, beq_self_eq_true, if_true, Bool.false_eq_true, if_false, Option.isNone_iff_eq_none] at hchk
      rcases hmine b m hb with ⟨j', hj', _⟩ | ⟨_, h3 | h3⟩
      · rw [hchk] at hj'; cases hj'
      · exact h3.1
      · exfalso
        simp only [ownX, hb] at h3
        rw [hchk] at h3
        simp only at h3
        rw [if_pos (List.any_eq_true.2 ⟨(m, 1), List.mem_of_getElem? hsj, by simp⟩)] at h3
        cases h3
  · rintro e w' (⟨v, G, o', rfl, hp, hb', ht, hs'⟩ | ⟨v, o', rfl, hp, hb', ht⟩)
    · obtain ⟨o2, q1, q2, q3⟩ := core G w' o' (hst.imp id fun h => h v G hp) hb' ht hs'
      exact .inl ⟨v, rfl, _, o2, ⟨G, hp, rfl⟩, q1, q2, q3⟩
    · obtain ⟨o2, q1, q2, q3⟩ := core [] w' o' (.inr fun g hg => by simp at hg) hb' ht (fun j h hj => by simp at hj)
      exact .inr ⟨v, rfl, hp, o2, q1, q2, by simpa using q3⟩
/-- the operation panics with a value -/
theorem ops_panic {ops : Array Oper} {op : Oper} {rest : List Oper} (v : Value) (hw : Wants E.n ops V op) (h : ∀ ρ w o, Fits V ρ → Sats w o H → op.semAt E.r ρ = execOp ρ op ∧ (execOp ρ op).run E.P w = .halt (.panic v) w) (hp : FinP E V H v) : Ops E ops (op :: rest) k V H := by
  intro a w r
  unfold wpListIn
  rw [if_pos (hw.wanted r)]
  have hf := r.fits
  obtain ⟨o, hb, ht, hs⟩ := r.2.2.2
  obtain ⟨e1, e2⟩ := h a.eval w o hf hs
  unfold Oper.wpIn
  refine ⟨fun _ _ => trivial, ?_⟩
  have e1' : op.semAt (FR E.r).round a.eval = execOp a.eval op := e1
  rw [e1', e2]
  exact Qof_pan k a w (hp a w r)
end Go.Abs
namespace Go.Abs
variable {E : Env} {k : List KI} {V : VF} {H : List HA}
/-- what a function gives that may panic -/
inductive Pn (R : Type) where
  | ret (r : R)
  | pan (e : Int)
def pbind {A R : Type} (x : Pn A) (f : Int → Option R) (g : A → Option R) : Option R := match x with
  | .ret a => g a
  | .pan e => f e
theorem pbind_ret {A R : Type} {a : A} {f : Int → Option R} {g : A → Option R} {r : R} (h : pbind (.ret a) f g = some r) : g a = some r := h
theorem pbind_pan {A R : Type} {e : Int} {f : Int → Option R} {g : A → Option R} {r : R} (h : pbind (.pan e) f g = some r) : f e = some r := h
theorem any_tp {ops : Array Oper} {op : Oper} {listed : Array Bool} {fuel : Nat} {Hs : List HA} {post : Post} {pan : Value → Prop} {Hp : List HA} {i : Nat} (hi : ops[i]? = some op) (hw : Wants E.n ops V op) (hd : inB E.n op.dst = true) (h : OpTP E.P op V H post pan Hp)
    (hk : ∀ v H', post v H' → Sub H' Hs ∧ AnyL E ops (listed.setIfInBounds i true) fuel k (V.put op.dst v) H' Hs) (hp : ∀ v, pan v → FinP E V Hp v) : AnyO E ops listed fuel k V H Hs i := by
  intro a w r
  unfold wpOpI
  simp only [hi]
  rw [if_pos (hw.wanted r)]
  have hf := r.fits
  obtain ⟨h1, h2, h3, o, hb, ht, hs⟩ := r
  have := h a.eval w o hf hb hs
  unfold DoesP at this
  generalize (execOp a.eval op).run E.P w = x at *
  cases x with
  | halt x w' => simp at this
  | ok nx w' =>
    cases nx <;> simp only [Oper.uponIn] at this ⊢
    case enter f args =>
      refine ⟨(fun h => nomatch h), CallsIn.mono (F := FR E.r) (callsIn_wide.2 this) ?_⟩
      rintro e w'' (⟨v, rfl, H', o', hp', hb', ht', hs'⟩ | ⟨v, rfl, hv, o', hb', ht', hs'⟩)
      · exact ⟨⟨o', hb', ht.tr.trans ht', (hk v H' hp').1.sats hs'⟩, (hk v H' hp').2 _ _ (Rel.put h1 h2 h3 hd hb' ht ht' hs')⟩
      · exact Qof_pan k a w'' (hp v hv a w'' (Rel.put (d := none) (v := undef) h1 h2 h3 rfl hb' ht ht' hs'))
end Go.Abs
namespace Go.Abs
variable {E : Env} {k : List KI} {V : VF} {H : List HA}
theorem mp_ret {P : Program} {f : FuncId} {args : List Value} {Hc : List HA} {R : Type} {q : R} {post : R → Value → List HA → Prop} {X : Int → Value → Prop}
    (h : MeetsP P f args Hc (fun v G => ∃ q', Pn.ret q = .ret q' ∧ post q' v G) (fun v => ∃ e, (Pn.ret q : Pn R) = .pan e ∧ X e v)) : Meets P f args Hc (post q) := fun w o hb hs =>
  (h w o hb hs).mono fun e w' h => by
    rcases h with ⟨v, G, o', h1, ⟨q', hq, h2⟩, h3⟩ | ⟨v, o', _, ⟨e, he, _⟩, _⟩
    · cases hq; exact ⟨v, G, o', h1, h2, h3⟩
    · cases he
theorem op_panic {P : Program} {r : Option Nat} {d : Option Nat} {ty : TypeId} {pos : String} {af : Array Edge} {g : Option (Nat × Bool)} {x : Operand} {T : TypeId} {u : Value} (hx : V.ev x = some (.iface T u)) :
    ∀ ρ w o, Fits V ρ → Sats w o H → Oper.semAt r ρ ⟨d, .panic x, ty, pos, af, g⟩ = execOp ρ ⟨d, .panic x, ty, pos, af, g⟩ ∧ (execOp ρ ⟨d, .panic x, ty, pos, af, g⟩).run P w = .halt (.panic (.iface T u)) w := by
  intro ρ w o hf _
  refine ⟨Oper.semAt_eq _ _ _ (fun c hc => (by cases hc)), ?_⟩
  simp [execOp, hf x _ hx, Instr.panic]
end Go.Abs
namespace Go.Abs
variable {E : Env} {k : List KI} {V : VF} {H : List HA}

def bodyQ (P : Program) (fn : Func) (w0 : World) (o0 : Own) (post : Post) : Exit → Act → World → Prop
  | .outgrown, _, _ => False
  | e, a, w => bodyPostM (FR none) 0 P fn (Ends w0 o0 post) e a w
def EnvQ (P : Program) (n : Nat) (w0 : World) (o0 : Own) (fn : Func) (post : Post) : Env :=
  { P := P, n := n, w0 := w0, o0 := o0, r := none, nd := true, B := bodyQ P fn w0 o0 post, blind := false, np := fun h => (by cases h), no := fun _ _ h => h }
theorem fnq_of_run {P : Program} {f : FuncId} {fn : Func} {c : Code} {args : List Value} {H : List HA} {post : Post} {n : Nat}
    (hf : P.funcs[f]? = some fn) (hb : fn.body = some c) (hm : fn.ntmps = n) (hn : Nat.ble args.length n = true)
    (h : ∀ w0 o0, Run (EnvQ P n w0 o0 fn post) c [] (VF.args args 0) H) : Meets P f args H post := by
  intro w o hbd hs
  refine callsIn_wide.1 (callsIn_of_wp_marks (F := FR none) (n := 0) hf hb trivial ?_)
  refine wpIn_mono (h w o _ _ ⟨?_, (fun _ => rfl), ?_, o, hbd, TrD.of (TrM.refl w o) rfl, hs⟩) (fun e _ _ h => ?_)
  · have := Nat.le_of_ble_eq_true hn
    simp [hm, EnvQ]; omega
  · intro t v hv
    obtain ⟨_, h2⟩ := VF.args_get args 0 t v hv
    exact getD_append_left v (by simpa using h2)
  · cases e with
    | outgrown => exact h.elim
    | normal => exact h
    | ret => exact h
    | panic _ => exact h
    | exit _ => exact h
    | goto _ => exact h
def Env.push (E : Env) (D : Deferred) : Env := { E with db := D :: E.db, nd := false }
theorem Qof_push {D : Deferred} : ∀ (k : List KI), Qof (E.push D) k = Qof E k
  | [] => rfl
  | .code y :: k => by simp only [Qof]; rw [Qof_push k]; rfl
  | .blk id :: k => by simp only [Qof]; rw [Qof_push k]
  | .scope :: k => by simp only [Qof]; rw [Qof_push k]
  | .loop L :: k => by simp only [Qof]; rw [Qof_push k]
/-- 'defer' of a function value -/
theorem ops_defer {ops : Array Oper} {rest : List Oper} {ty : TypeId} {pos : String} {af : Array Edge} {g : Option (Nat × Bool)} {x : Operand} {f : FuncId} {cs : List Value} (hw : Wants E.n ops V ⟨none, .defer ⟨.value x, #[], #[]⟩, ty, pos, af, g⟩)
    (hx : V.ev x = some (.func (.func f) #[] cs.toArray)) (h0 : E.db = []) (hr : E.nd = true) (hr0 : E.r = none) (hk : Ops (E.push { target := .fn (.func f) cs.toArray, args := #[] }) ops rest k V H) :
    Ops E ops (⟨none, .defer ⟨.value x, #[], #[]⟩, ty, pos, af, g⟩ :: rest) k V H := by
  intro a w r
  unfold wpListIn
  rw [if_pos (hw.wanted r)]
  have hf := r.fits
  obtain ⟨h1, h2, h3, o, hb, ht, hs⟩ := r
  have hrun : (execOp a.eval ⟨none, .defer ⟨.value x, #[], #[]⟩, ty, pos, af, g⟩).run E.P w = .ok (.defer { target := .fn (.func f) cs.toArray, args := #[] }) w := by
    simp [execOp, resolve, Deferred.ofValue, hf x _ hx]
  unfold Oper.wpIn
  refine ⟨fun _ _ => trivial, ?_⟩
  have hsem : Oper.semAt (FR E.r).round a.eval ⟨none, .defer ⟨.value x, #[], #[]⟩, ty, pos, af, g⟩ = execOp a.eval ⟨none, .defer ⟨.value x, #[], #[]⟩, ty, pos, af, g⟩ := by rw [hr0]; rfl
  rw [hsem, hrun, Oper.uponIn_defer]
  have := hk { a with defers := { target := .fn (.func f) cs.toArray, args := #[] } :: a.defers } w ⟨h1, fun h => (by cases h), h3, o, hb, ?_, hs⟩
  · rw [Qof_push] at this
    exact this
  · have hd := h2 hr
    rw [hd] at ht ⊢
    exact ⟨[], by simp [Env.push, h0], ht.tr, Marked.nil _ _ _⟩

/-- the marks are taken away, down to what the function itself has deferred -/
theorem leaves_marksD {P : Program} {w0 : World} {o0 : Own} {fn : Func} {tmps : Array Value} {R : Ending → World → Prop} {u : FrameMode} {H : List HA} {ds0 : List Deferred} (hu : u ≠ .run)
    (h : ∀ w' o, Bnd w' o → Tr w0 o0 w' o → Sats w' o H → LeavesInM (FR none) 0 P fn tmps R ds0 u w') : ∀ (ds : List Deferred) (w : World) (o : Own), Bnd w o → TrM w0 o0 ds w o → Sats w o H → LeavesInM (FR none) 0 P fn tmps R (ds ++ ds0) u w
  | [], w, o, hb, ht, hs => h w o hb ht.tr hs
  | d :: ds, w, o, hb, ht, hs => by
    obtain ⟨D, e, h1, h2, h3, h4⟩ := ht.mks.1 d (List.mem_cons_self ..)
    have hnd := List.nodup_cons.1 ht.mks.2
    refine ⟨hu, .inl ⟨D, w.putObj D (.deferred none), by rw [e], run_takeDeferred h4, ?_⟩⟩
    have hsz : (w.putObj D (.deferred none)).heap.size = w.heap.size := World.putObj_size
    have hot : ∀ b, o b ≠ .far → (w.putObj D (.deferred none)).heap[b]? = w.heap[b]? := fun b hb => World.putObj_heap_other (by rintro rfl; exact hb h3)
    refine leaves_marksD hu h ds _ o ?_ ?_ ?_
    · intro b hb'; exact hb b (by rwa [hsz] at hb')
    · refine ⟨⟨ht.tr.os, ht.tr.tape, ht.tr.output, by rw [hsz]; exact ht.tr.size, fun b hb' ho => ?_, fun b hb' ho => ?_⟩, fun d' hd' => ?_, hnd.2⟩
      · obtain ⟨f1, f2⟩ := ht.tr.no b hb' ho
        exact ⟨f1, (hot b (by rw [f1]; simp)).trans f2⟩
      · obtain ⟨f1, f2⟩ := ht.tr.far b hb' ho
        exact ⟨f1, (World.putObj_heap_other (by omega)).trans f2⟩
      · obtain ⟨D', e', g1, g2, g3, g4⟩ := ht.mks.1 d' (List.mem_cons_of_mem _ hd')
        refine ⟨D', e', g1, by rw [hsz]; exact g2, g3, (World.putObj_heap_other ?_).trans g4⟩
        rintro rfl
        exact hnd.1 (by rw [e, ← e']; exact hd')
    · intro j g hj
      exact g.keep (Nat.le_of_eq hsz.symm) (fun b _ hb' => ⟨hb', hot b (by rw [hb']; simp)⟩) (fun b _ hb' => ⟨hb', hot b (by rw [hb']; simp)⟩) (hs j g hj)
theorem run_invoke {P : Program} {f : FuncId} {cs : Array Value} (hcall : ∀ args w, (callFunc f args).run P w = .ok (.enter f args) w) (w : World) : (invoke (.fn (.func f) cs) #[]).run P w = .ok (.enter f cs) w := by
  simp [invoke, hcall]
/-- a deferred call, in the mode u of who leaves: what it makes of the mode and of memory -/
def RecD (P : Program) (f : FuncId) (cs : List Value) (u u' : FrameMode) (H H' : List HA) : Prop := ∀ w o, Bnd w o → Sats w o H →
  CallsDIn (FR none) 0 P f cs.toArray u w (fun e u2 w' => e = .returned (.tuple #[]) ∧ u2 = u' ∧ ∃ o', Bnd w' o' ∧ Tr w o w' o' ∧ Sats w' o' H')
section
variable {P : Program} {n : Nat} {w0 : World} {o0 : Own} {fn : Func} {post : Post} {f : FuncId} {cs : List Value}
/-- at the end: what was deferred does nothing -/
theorem fin_rec (hcall : ∀ args w, (callFunc f args).run P w = .ok (.enter f args) w) (hc : RecD P f cs .returning .returning H H) (h : Fin (EnvQ P n w0 o0 fn post) V H) : Fin ((EnvQ P n w0 o0 fn post).push { target := .fn (.func f) cs.toArray, args := #[] }) V H := by
  rintro a w ⟨h1, _, h3, o, hb, ⟨ms, hds, ht⟩, hs⟩
  show LeavesInM (FR none) 0 P fn a.tmps (Ends w0 o0 post) a.defers .returning w
  have hds' : a.defers = ms ++ [{ target := .fn (.func f) cs.toArray, args := #[] }] := by simpa [Env.push, EnvQ] using hds
  rw [hds']
  refine leaves_marksD (by simp) (fun w' o' hb' ht' hs' => ?_) ms w o hb ht hs
  refine ⟨by simp, .inr ⟨by simp [FR], _, _, _, _, rfl, run_invoke hcall w', fun _ _ => trivial, (hc w' o' hb' hs').mono ?_⟩⟩
  rintro e u w'' ⟨rfl, rfl, o'', hb'', ht'', hs''⟩
  exact h { a with defers := [] } w'' ⟨h1, fun _ => rfl, h3, o'', hb'', ⟨[], rfl, ht'.trans ht'', Marked.nil _ _ _⟩, hs''⟩
/-- at a panic: what was deferred recovers -/
theorem finP_rec {v : Value} {H' : List HA} (hcall : ∀ args w, (callFunc f args).run P w = .ok (.enter f args) w) (hc : RecD P f cs (.panicking [{ v := v, recovered := false }]) (.panicking [{ v := v, recovered := true }]) H H') (h : Fin (EnvQ P n w0 o0 fn post) V H') : FinP ((EnvQ P n w0 o0 fn post).push { target := .fn (.func f) cs.toArray, args := #[] }) V H v := by
  rintro a w ⟨h1, _, h3, o, hb, ⟨ms, hds, ht⟩, hs⟩
  show LeavesInM (FR none) 0 P fn a.tmps (Ends w0 o0 post) a.defers (.panicking [{ v := v, recovered := false }]) w
  have hds' : a.defers = ms ++ [{ target := .fn (.func f) cs.toArray, args := #[] }] := by simpa [Env.push, EnvQ] using hds
  rw [hds']
  refine leaves_marksD (by simp) (fun w' o' hb' ht' hs' => ?_) ms w o hb ht hs
  refine ⟨by simp, .inr ⟨by simp [FR], _, _, _, _, rfl, run_invoke hcall w', fun _ _ => trivial, (hc w' o' hb' hs').mono ?_⟩⟩
  rintro e u w'' ⟨rfl, rfl, o'', hb'', ht'', hs''⟩
  exact h { a with defers := [] } w'' ⟨h1, fun _ => rfl, h3, o'', hb'', ⟨[], rfl, ht'.trans ht'', Marked.nil _ _ _⟩, hs''⟩
theorem Rel.leavesQ {a : Act} {w : World} (r : Rel (EnvQ P n w0 o0 fn post) V H a w)
    (h : ∀ w' o, Bnd w' o → Tr w0 o0 w' o → Sats w' o H → ∃ v, (results fn a.tmps).run P w' = .ok v w' ∧ Ends w0 o0 post (.returned v) w') : (EnvQ P n w0 o0 fn post).B .ret a w := by
  obtain ⟨_, h2, _, o, hb, ⟨ms, hds, ht⟩, hs⟩ := r
  have hd := h2 rfl
  show LeavesInM (FR none) 0 P fn a.tmps (Ends w0 o0 post) a.defers .returning w
  rw [hd]
  exact h w o hb ht.tr hs
theorem fin_resQ (rs : List ResultVar) (vs : List Value) (is : List Nat) (G : List HA)
    (hr : fn.results = rs.toArray) (hl : rs.length = vs.length) (hv : ∀ (i : Nat) (r : ResultVar) (v : Value), rs[i]? = some r → vs[i]? = some v → ResIs P V H r v) (hn : is.Nodup) (hG : Picks is H G)
    (hp : post (tup vs) G) : Fin (EnvQ P n w0 o0 fn post) V H := by
  intro a w r
  exact r.leavesQ fun w' o hb ht hs => ⟨_, results_run r.2.2.1 hs rs vs hr hl hv, _, G, reown is o, rfl, hp, bnd_reown is hb, tr_reown' is ht, sats_pick hn hG.get hs⟩
end

/-! the body of a deferred call -/
def EnvS (P : Program) (n : Nat) (w0 : World) (o0 : Own) : Env :=
  { P := P, n := n, w0 := w0, o0 := o0, r := none, nd := true, B := fun _ _ _ => False, np := fun _ _ _ _ _ _ h => h, no := fun _ _ h => h }
def OpsS (E : Env) (ops : Array Oper) (l : List Nat) (Q : Exit → Act → List Frame → World → Prop) (cs : List Frame) (V : VF) (H : List HA) : Prop :=
  ∀ a w, Rel E V H a w → wpOpsSIn (FR none) 0 E.P ops Q l a cs w
def RunS (E : Env) (c : Code) (Q : Exit → Act → List Frame → World → Prop) (cs : List Frame) (V : VF) (H : List HA) : Prop :=
  ∀ a w, Rel E V H a w → c.wpSIn (FR none) 0 E.P Q a cs w
section
variable {Q : Exit → Act → List Frame → World → Prop} {cs : List Frame} {ops : Array Oper} {rest : List Nat}
theorem runS_seq {x y : Code} (h : RunS E x (Exit.thenS (y.wpSIn (FR none) 0 E.P Q) Q) cs V H) : RunS E (.seq x y) Q cs V H := fun a w r => wpSIn_seq (h a w r)
theorem runS_region {id : Nat} (l : List Nat) (hl : List.range ops.size = l) (h : OpsS E ops l Q cs V H) : RunS E (.region id ops false) Q cs V H := fun a w r => wpSIn_region (by rw [hl]; exact h a w r)
theorem opsS_next {y : Code} (h : RunS E y Q cs V H) : ∀ a w, Rel E V H a w → Exit.thenS (y.wpSIn (FR none) 0 E.P Q) Q .normal a cs w := h
theorem runS_cond {c : Operand} {x y : Code} (t : Bool) (hc : V.ev c = some (.bool t)) (h : RunS E (if t then x else y) Q cs V H) : RunS E (.cond c x y) Q cs V H :=
  fun a w r => wpSIn_cond (r.2.2.1.ev hc) (h a w r)
theorem runS_cond_t {c : Operand} {x y : Code} (hc : V.ev c = some (.bool true)) (h : RunS E x Q cs V H) : RunS E (.cond c x y) Q cs V H := runS_cond true hc h
theorem runS_cond_f {c : Operand} {x y : Code} (hc : V.ev c = some (.bool false)) (h : RunS E y Q cs V H) : RunS E (.cond c x y) Q cs V H := runS_cond false hc h
theorem runS_skip (h : ∀ a w, Rel E V H a w → Q .normal a cs w) : RunS E .skip Q cs V H := fun a w r => wpSIn_of_wpIn rfl (wpIn_skip (h a w r))
theorem opsS_nil (h : ∀ a w, Rel E V H a w → Q .normal a cs w) : OpsS E ops [] Q cs V H := fun a w r => h a w r
theorem opsS_y {i : Nat} {op : Oper} {v : Value} (hi : ops[i]? = some op) (hg : op.guard = none) (hd : inB E.n op.dst = true) (h : OpY E.P op V H v) (hk : OpsS E ops rest Q cs (V.put op.dst v) H) : OpsS E ops (i :: rest) Q cs V H := by
  intro a w r
  simp only [wpOpsSIn, hi]
  have hf := r.fits
  obtain ⟨h1, h2, h3, o, hb, ht, hs⟩ := r
  refine ⟨fun _ _ => trivial, ?_⟩
  rw [if_pos (by simp [Region.wanted, hg]), h a.eval w o hf hb hs]
  exact hk _ w (Rel.put h1 h2 h3 hd hb ht (Tr.refl w o) hs)
theorem opsS_recover {i : Nat} {d : Option Nat} {ty : TypeId} {pos : String} {af : Array Edge} {v : Value} {cs' : List Frame} (hi : ops[i]? = some ⟨d, .call ⟨.builtin .recover, #[], #[]⟩, ty, pos, af, none⟩) (hd : inB E.n d = true)
    (hr : (match recoverD cs with | some (v, cs') => (v, cs') | none => (Value.nilIface, cs)) = (v, cs')) (hk : OpsS E ops rest Q cs' (V.put d v) H) : OpsS E ops (i :: rest) Q cs V H := by
  intro a w r
  simp only [wpOpsSIn, hi]
  obtain ⟨h1, h2, h3, o, hb, ht, hs⟩ := r
  refine ⟨fun _ _ => trivial, ?_⟩
  rw [if_pos (by simp [Region.wanted])]
  have hrun : (execOp a.eval ⟨d, .call ⟨.builtin .recover, #[], #[]⟩, ty, pos, af, none⟩).run E.P w = .ok .recover w := by
    simp [execOp, resolve, invoke, builtin]
  rw [hrun]
  have := hk _ w (Rel.put (d := d) (v := v) h1 h2 h3 hd hb ht (Tr.refl w o) hs)
  cases hc : recoverD cs with
  | none => rw [hc] at hr; simp at hr; obtain ⟨rfl, rfl⟩ := hr; exact this
  | some p => obtain ⟨v1, c1⟩ := p; rw [hc] at hr; simp at hr; obtain ⟨rfl, rfl⟩ := hr; exact this
end
section
variable {P : Program} {f : FuncId} {fn : Func} {c : Code} {cs : List Value} {n : Nat}
/-- the contract of a deferred call -/
theorem recD_of {u u' : FrameMode} {H H' : List HA} (hf : P.funcs[f]? = some fn) (hb : fn.body = some c) (hm : fn.ntmps = n) (hn : Nat.ble cs.length n = true)
    (h : ∀ (w0 : World) (o0 : Own) (c0 : Frame) (cf : List Frame), c0.mode = u →
      RunS (EnvS P n w0 o0) c (bodyPostS P fn c0 cf (fun e u2 w' => e = .returned (.tuple #[]) ∧ u2 = u' ∧ ∃ o', Bnd w' o' ∧ Tr w0 o0 w' o' ∧ Sats w' o' H')) (c0 :: cf) (VF.args cs 0) H) : RecD P f cs u u' H H' := by
  intro w o hbd hs
  refine callsDIn_of_wpSIn hf hb trivial fun c0 cf hu => ?_
  refine h w o c0 cf hu _ _ ⟨?_, (fun _ => rfl), ?_, o, hbd, TrD.of (TrM.refl w o) rfl, hs⟩
  · have := Nat.le_of_ble_eq_true hn
    simp [hm, EnvS]; omega
  · intro t v hv
    obtain ⟨_, h2⟩ := VF.args_get cs 0 t v hv
    exact getD_append_left v (by simpa using h2)
theorem leafS {w0 : World} {o0 : Own} {u' : FrameMode} {c0 : Frame} {cf cs' : List Frame} {H' : List HA} {V : VF} (hr : fn.results = #[]) (hcs : cs' = { c0 with mode := u' } :: cf) :
    ∀ a w, Rel (EnvS P n w0 o0) V H' a w → bodyPostS P fn c0 cf (fun e u2 w' => e = .returned (.tuple #[]) ∧ u2 = u' ∧ ∃ o', Bnd w' o' ∧ Tr w0 o0 w' o' ∧ Sats w' o' H') .normal a cs' w := by
  rintro a w ⟨h1, h2, h3, o, hb, ht, hs⟩
  refine ⟨h2 rfl, u', hcs, _, ?_, rfl, rfl, o, hb, ht.tr, hs⟩
  unfold results
  rw [hr]
  simp
theorem mode_same {c0 : Frame} {u : FrameMode} (h : c0.mode = u) : c0 = { c0 with mode := u } := by
  subst h; rfl
end
end Go.Abs
namespace Go.Abs
variable {E : Env} {k : List KI} {V : VF} {H : List HA}
/-- the same, where nothing may go wrong -/
def Env.calm (E : Env) : Env := { E with B := fun _ _ _ => False, blind := true, np := fun _ _ _ _ _ _ h => h, no := fun _ _ h => h }
theorem run_calm {c : Code} (h : ∀ L : Act → World → Prop, (∀ V' H', Goes E k V' H' → ∀ a w, Rel E V' H' a w → L a w) → Run E.calm c [.loop L] V H) : Run E c k V H := by
  intro a w r
  refine wpIn_mono (h (fun a w => Qof E k .normal a w) (fun V' H' hg a w r => hg a w r) a w r) ?_
  intro e a w hq
  cases e with
  | normal => exact hq
  | exit id => exact hq.elim
  | goto l => exact hq.elim
  | ret => exact hq.elim
  | panic ch => exact hq.elim
  | outgrown => exact hq.elim
theorem goes_calm {L : Act → World → Prop} (hL : ∀ V' H', Goes E k V' H' → ∀ a w, Rel E V' H' a w → L a w) (h : Goes E k V H) : Goes E.calm [.loop L] V H := fun a w r => hL V H h a w r
theorem runS_of {Q : Exit → Act → List Frame → World → Prop} {cs : List Frame} {c : Code} (h : ∀ L : Act → World → Prop, (∀ V' H', (∀ a w, Rel E V' H' a w → Q .normal a cs w) → ∀ a w, Rel E V' H' a w → L a w) → Run E.calm c [.loop L] V H) (hr : E.r = none := by exact rfl) : RunS E c Q cs V H := by
  intro a w r
  refine wpSIn_of_wpIn rfl ?_
  have := h (fun a w => Q .normal a cs w) (fun V' H' hg a w r => hg a w r) a w r
  rw [show (FR E.calm.r) = FR none from congrArg FR hr] at this
  refine wpIn_mono this ?_
  intro e a w hq
  cases e with
  | normal => exact hq
  | exit id => exact hq.elim
  | goto l => exact hq.elim
  | ret => exact hq.elim
  | panic ch => exact hq.elim
  | outgrown => exact hq.elim
end Go.Abs
namespace Go.Abs
end Go.Abs
namespace Go.Abs
variable {P : Program} {V : VF} {H : List HA} {d : Option Nat} {ty : TypeId} {pos : String} {af : Array Edge} {g : Option (Nat × Bool)}
end Go.Abs
namespace Go.Abs
theorem eB8_in {b : Int} (h : 0 ≤ b ∧ b ≤ 255) : eB8 (b.toNat.toUInt8) = [.int .u8 b] := by
  unfold eB8
  have : (b.toNat.toUInt8).toNat = b.toNat := by
    show (UInt8.ofNat b.toNat).toNat = b.toNat
    rw [UInt8.toNat_ofNat']
    omega
  rw [this, Int.toNat_of_nonneg h.1]
end Go.Abs
namespace Go.Abs
open Go.RowKit Go.Sort
/-! plain functions -/
def idxN (c : UInt8) : List UInt8 → Option Nat
  | [] => none
  | b :: l => if b == c then some 0 else (idxN c l).map (· + 1)
def idxP (l : List UInt8) (c : UInt8) : Int := match idxN c l with | some n => n | none => -1
theorem idxP_eq (c : UInt8) : ∀ l, Lib.indexByte l c = idxP l c
  | [] => rfl
  | b :: l => by
    unfold Lib.indexByte idxP idxN
    rw [idxP_eq c l]
    unfold idxP
    by_cases h : (b == c) = true
    · simp [h]
    · simp only [h]
      cases hn : idxN c l with
      | none => simp
      | some n => simp [show ¬ ((n : Int) = -1) by omega]
def atoiP (l : List UInt8) : Int × Bool := match Lib.atoiAll l with
  | .ok v => (v, true)
  | .range => (Lib.atoiSat l, false)
  | _ => (0, false)
def joinP (l : List (List UInt8)) (sep : List UInt8) : List UInt8 := sep.intercalate l

/-! what the contracts ask of the program's variables -/
structure GlobIs (P : Program) (N : Nat) (w : World) : Prop where
  maxLen : ∃ g m, P.globalNamed "internal/bytealg.MaxLen" = some g ∧ g < N ∧ w.cell? ⟨g, 0, none⟩ = some (.int .i64 m)
  errSyntax : ∃ g t p, P.globalNamed "strconv.ErrSyntax" = some g ∧ g < N ∧ w.cell? ⟨g, 0, none⟩ = some (.iface t p)
  errRange : ∃ g t p, P.globalNamed "strconv.ErrRange" = some g ∧ g < N ∧ w.cell? ⟨g, 0, none⟩ = some (.iface t p)
  pow10 : ∃ g, P.globalNamed "internal/strconv.uint64pow10" = some g ∧ g < N ∧ Lib.TabIs P w "internal/strconv.uint64pow10" .u64 Lib.pow10Tab
def glob (P : Program) (N : Nat) : HA :=
  ⟨fun w o _ => N ≤ w.heap.size ∧ (∀ b, b < N → o b = .no) ∧ GlobIs P N w, fun {w w' o o' k k'} hs _ h2 h => by
    obtain ⟨a1, a2, a3⟩ := h
    have hb : ∀ b, b < N → w'.heap[b]? = w.heap[b]? := fun b hb => (h2 b (by omega) (a2 b hb)).2
    refine ⟨by omega, fun b hb => (h2 b (by omega) (a2 b hb)).1, ?_⟩
    obtain ⟨⟨g1, m, e1, l1, f1⟩, ⟨g2, t2, p2, e2, l2, f2⟩, ⟨g3, t3, p3, e3, l3, f3⟩, ⟨g4, e4, l4, f4⟩⟩ := a3
    refine ⟨⟨g1, m, e1, l1, by rw [cell_of_block (hb g1 l1)]; exact f1⟩, ⟨g2, t2, p2, e2, l2, by rw [cell_of_block (hb g2 l2)]; exact f2⟩, ⟨g3, t3, p3, e3, l3, by rw [cell_of_block (hb g3 l3)]; exact f3⟩, ⟨g4, e4, l4, ?_⟩⟩
    unfold Lib.TabIs World.var? at f4 ⊢
    rw [e4] at f4 ⊢
    simp only [Option.bind_some] at f4 ⊢
    rw [hb g4 l4]; exact f4⟩
theorem free_glob {P : Program} {N : Nat} : Free (glob P N) := fun _ _ _ _ _ ho h => ⟨h.1, fun b hb => ho b (Nat.lt_of_lt_of_le hb h.1) (h.2.1 b hb), h.2.2⟩
theorem views_glob {P : Program} {N : Nat} : Views (glob P N) (glob P N) false := views_free free_glob
/-- an interface value of which only is known whether it is nil -/
def oif (v : Value) (b : Bool) : HA := ⟨fun _ _ _ => (v = .nilIface ∧ b = true) ∨ ((∃ T x, v = .iface T x) ∧ b = false), fun _ _ _ h => h⟩
theorem tr_below {w w' : World} {o : Own} (h : Below w.heap.size w w') : Tr w o w' o :=
  ⟨h.os, h.tape, h.output, h.size, fun b hb ho => ⟨ho, h.block b hb⟩, fun b hb ho => ⟨ho, h.block b hb⟩⟩
theorem bnd_below {w w' : World} {o : Own} (hb : Bnd w o) (h : Below w.heap.size w w') : Bnd w' o := fun b hle => hb b (Nat.le_trans h.size hle)
theorem ends_below {w w' : World} {o : Own} {post : Post} {v : Value} {G : List HA} (hb : Bnd w o) (h : Below w.heap.size w w') (hp : post v G) (hs : Sats w' o G) : Ends w o post (.returned v) w' :=
  ⟨v, G, o, rfl, hp, bnd_below hb h, tr_below h, hs⟩
theorem sats_nil {w : World} {o : Own} : Sats w o [] := fun j h hj => by simp at hj
end Go.Abs
namespace Go.Abs
section
variable {P : Program} {V : VF} {H : List HA} {d : Option Nat} {ty : TypeId} {pos : String} {af : Array Edge} {g : Option (Nat × Bool)}
theorem run_eq_nilIface {T : TypeId} {ms : Array (String × TypeId)} (hu : ∀ w, (underlying T).run P w = .ok (.interface ms) w) (v : Value) (b : Bool) (h : (v = .nilIface ∧ b = true) ∨ ((∃ T x, v = .iface T x) ∧ b = false)) (w : World) : (Op.equal T v .nilIface).run P w = .ok b w := by
  have h0 : ∀ (n : Nat), (Op.equalIn (n + 1) T v .nilIface).run P w = .ok b w := by
    intro n
    rcases h with ⟨rfl, rfl⟩ | ⟨⟨t, x, rfl⟩, rfl⟩ <;> simp [Op.equalIn, hu]
  exact h0 9999
theorem y_ifne {T U : TypeId} {x : Operand} {v : Value} {b : Bool} {ms : Array (String × TypeId)} (hu : ∀ w, (underlying T).run P w = .ok (.interface ms) w) (hx : V.ev x = some v) (h : (v = .nilIface ∧ b = true) ∨ ((∃ T x, v = .iface T x) ∧ b = false)) :
    OpY P ⟨d, .binOp .neq T x (.const .nilIface) U, ty, pos, af, g⟩ V H (.bool (!b)) := by
  intro ρ w o hf _ _
  have h1 := run_eq_nilIface hu v b h
  have h2 : ρ (.const .nilIface) = .nilIface := hf _ _ rfl
  have hx' := hf x v hx
  rcases h with ⟨rfl, rfl⟩ | ⟨⟨t, y, rfl⟩, rfl⟩ <;> simp [execOp, hx', h2, eqGuard, binOp, h1]
end
end Go.Abs
namespace Go.Proofs
open Go.Shelf
def Tryz.lays156_ren : Go.Shelf.Ren := ⟨fun | 156 => 39 | 165 => 69 | 166 => 70 | 169 => 71 | 240 => 87 | 241 => 88 | 276 => 102 | 277 => 103 | n => n, fun | 31 => 39 | 9 => 9 | 3 => 3 | 4 => 4 | 0 => 0 | 20 => 20 | 72 => 98 | 76 => 81 | 70 => 96 | 37 => 47 | 75 => 80 | 127 => 130 | 164 => 152 | 5 => 5 | 80 => 100 | n => n, fun | n => n⟩
theorem Tryz.lays156 : Go.Proofs.Lays.n156 Tryz.prog Tryz.lays156_ren := {
  mixed := by kernel_rfl
  f156 := Tryz.func39.trans (congrArg some (by kernel_rfl))
  f165 := Tryz.func69.trans (congrArg some (by kernel_rfl))
  f166 := Tryz.func70.trans (congrArg some (by kernel_rfl))
  f169 := Tryz.func71.trans (congrArg some (by kernel_rfl))
  f240 := Tryz.func87.trans (congrArg some (by kernel_rfl))
  f241 := Tryz.func88.trans (congrArg some (by kernel_rfl))
  f276 := Tryz.func102.trans (congrArg some (by kernel_rfl))
  f277 := Tryz.func103.trans (congrArg some (by kernel_rfl))
  t0 := Tryz.underlying0
  a0 := Tryz.isAgg0
  z0 := Tryz.sizeOf0
  v0 := Tryz.zeroValue0
  t3 := Tryz.underlying3
  a3 := Tryz.isAgg3
  z3 := Tryz.sizeOf3
  v3 := Tryz.zeroValue3
  t4 := Tryz.underlying4
  a4 := Tryz.isAgg4
  z4 := Tryz.sizeOf4
  v4 := Tryz.zeroValue4
  t9 := Tryz.underlying9
  a9 := Tryz.isAgg9
  z9 := Tryz.sizeOf9
  v9 := Tryz.zeroValue9
  t20 := Tryz.underlying20
  a20 := Tryz.isAgg20
  z20 := Tryz.sizeOf20
  v20 := Tryz.zeroValue20
  t31 := Tryz.underlying39
  a31 := Tryz.isAgg39
  z31 := Tryz.sizeOf39
  v31 := Tryz.zeroValue39
  t37 := Tryz.underlying47
  a37 := Tryz.isAgg47
  z37 := Tryz.sizeOf47
  v37 := Tryz.zeroValue47
  t70 := Tryz.underlying96
  a70 := Tryz.isAgg96
  z70 := Tryz.sizeOf96
  v70 := Tryz.zeroValue96
  t72 := Tryz.underlying98
  a72 := Tryz.isAgg98
  z72 := Tryz.sizeOf98
  v72 := Tryz.zeroValue98
  t75 := Tryz.underlying80
  a75 := Tryz.isAgg80
  z75 := Tryz.sizeOf80
  v75 := Tryz.zeroValue80
  t76 := Tryz.underlying81
  a76 := Tryz.isAgg81
  z76 := Tryz.sizeOf81
  v76 := Tryz.zeroValue81
  t127 := Tryz.underlying130
  a127 := Tryz.isAgg130
  z127 := Tryz.sizeOf130
  v127 := Tryz.zeroValue130
  t164 := Tryz.underlying152
  a164 := Tryz.isAgg152
  z164 := Tryz.sizeOf152
  v164 := Tryz.zeroValue152 }
theorem Tryz.Builder_Extra_156 : Builder.Extra Tryz.prog Tryz.lays156_ren := {
  sizeBuilder := by kernel_rfl
  liesBuilder := by kernel_rfl
  t5 := Tryz.underlying5
  a5 := Tryz.isAgg5
  z5 := Tryz.sizeOf5
  v5 := Tryz.zeroValue5
  infoByte := by kernel_rfl
  cellsByte := by kernel_rfl
  sizeByte := by kernel_rfl
  neB5 := by decide }
open Go.RowKit in
/-- No element: the empty string; the world is as it was. (Whatever the slice's address and capacity: a nil slice too.) (LAID: no walk: one application.) -/
theorem Tryz.strings_Join_none (a : Option Addr) (c : Nat) (sep : ByteArray) (w : World) :
    Calls Tryz.prog 39 #[.slice a 0 c, .string sep] w fun e w' => e = .returned (.string ⟨#[]⟩) ∧ w' = w := Any.strings_Join_none Tryz.lays156 Tryz.Builder_Extra_156 a c sep w
open Go.RowKit in
/-- strings.Join: "Join concatenates the elements of its first argument to create a single string. The separator string sep is placed between elements in the resulting string.": HOWEVER MANY ELEMENTS. Below the heap's end the world is as it was. (LAID: no walk: one application.) -/
theorem Tryz.strings_Join (bk o c : Nat) (xs : List ByteArray) (sep : ByteArray) (w : World) (hcells : ∀ (j : Nat) x, xs[j]? = some x → w.cell? ⟨bk, o + j, none⟩ = some (.string x)) (hbk : bk < w.heap.size) (hN : xs.length ≤ 140737488355328) (hcap : xs.length ≤ c) (hlen : (Lib.join (xs.map (·.data.toList)) sep.data.toList).length ≤ 140737488355328) :
    Calls Tryz.prog 39 #[.slice (some ⟨bk, o, none⟩) xs.length c, .string sep] w fun e w' => e = .returned (.string ⟨(Lib.join (xs.map (·.data.toList)) sep.data.toList).toArray⟩) ∧ Below w.heap.size w w' := Any.strings_Join Tryz.lays156 Tryz.Builder_Extra_156 bk o c xs sep w hcells hbk hN hcap hlen
def Tryz.lays137_ren : Go.Shelf.Ren := ⟨fun | 137 => 74 | 217 => 89 | 266 => 104 | n => n, fun | 9 => 9 | 5 => 5 | 3 => 3 | n => n, fun | n => n⟩
theorem Tryz.lays137 : Go.Proofs.Lays.n137 Tryz.prog Tryz.lays137_ren := {
  mixed := by kernel_rfl
  f137 := Tryz.func74.trans (congrArg some (by kernel_rfl))
  f217 := Tryz.func89.trans (congrArg some (by kernel_rfl))
  f266 := Tryz.func104.trans (congrArg some (by kernel_rfl))
  t3 := Tryz.underlying3
  a3 := Tryz.isAgg3
  z3 := Tryz.sizeOf3
  v3 := Tryz.zeroValue3
  t5 := Tryz.underlying5
  a5 := Tryz.isAgg5
  z5 := Tryz.sizeOf5
  v5 := Tryz.zeroValue5
  t9 := Tryz.underlying9
  a9 := Tryz.isAgg9
  z9 := Tryz.sizeOf9
  v9 := Tryz.zeroValue9 }
open Go.RowKit in
/-- strings.IndexByte: "IndexByte returns the index of the first instance of c in s, or -1 if c is not present in s.": IT RETURNS 'Lib.indexByte s c'; the world is as it was. (LAID: no walk: one application.) -/
theorem Tryz.strings_IndexByte (s : ByteArray) (c : Int) (w : World) :
    Calls Tryz.prog 74 #[.string s, .int .u8 c] w fun e w' => e = .returned (.int .i64 (Lib.indexByte s.data.toList c.toNat.toUInt8)) ∧ w' = w := Any.strings_IndexByte Tryz.lays137 s c w
def Tryz.laysC172_ren : Go.Shelf.Ren := ⟨fun | 172 => 36 | 244 => 65 | 245 => 66 | 247 => 80 | 279 => 81 | 280 => 82 | 281 => 83 | 282 => 84 | 287 => 95 | 316 => 96 | 171 => 98 | 205 => 97 | 321 => 106 | 322 => 107 | 243 => 108 | 246 => 115 | 283 => 122 | 284 => 123 | 285 => 124 | 286 => 125 | 129 => 137 | 317 => 136 | 318 => 138 | 319 => 139 | 320 => 140 | 337 => 149 | 338 => 150 | n => n, fun | 9 => 9 | 3 => 3 | 75 => 80 | 76 => 81 | 4 => 4 | 5 => 5 | 167 => 108 | 37 => 47 | 0 => 0 | 85 => 109 | 2 => 2 | 168 => 111 | 53 => 46 | 175 => 144 | 46 => 132 | 210 => 147 | 127 => 130 | 145 => 162 | 143 => 160 | 21 => 21 | 171 => 192 | 173 => 195 | 212 => 208 | 51 => 105 | 20 => 20 | 213 => 209 | 232 => 216 | 233 => 217 | 80 => 100 | n => n, fun | 15 => 3 | 16 => 4 | 17 => 5 | 18 => 6 | 19 => 7 | n => n⟩
theorem Tryz.laysC172 : Go.Proofs.LaysC.n172 Tryz.prog Tryz.laysC172_ren := {
  mixed := by kernel_rfl
  f129 := Tryz.func137.trans (congrArg some (by kernel_rfl))
  f171 := Tryz.func98.trans (congrArg some (by kernel_rfl))
  f172 := Tryz.func36.trans (congrArg some (by kernel_rfl))
  f205 := Tryz.func97.trans (congrArg some (by kernel_rfl))
  f243 := Tryz.func108.trans (congrArg some (by kernel_rfl))
  f244 := Tryz.func65.trans (congrArg some (by kernel_rfl))
  f245 := Tryz.func66.trans (congrArg some (by kernel_rfl))
  f246 := Tryz.func115.trans (congrArg some (by kernel_rfl))
  f247 := Tryz.func80.trans (congrArg some (by kernel_rfl))
  f279 := Tryz.func81.trans (congrArg some (by kernel_rfl))
  f280 := Tryz.func82.trans (congrArg some (by kernel_rfl))
  f281 := Tryz.func83.trans (congrArg some (by kernel_rfl))
  f282 := Tryz.func84.trans (congrArg some (by kernel_rfl))
  f283 := Tryz.func122.trans (congrArg some (by kernel_rfl))
  f284 := Tryz.func123.trans (congrArg some (by kernel_rfl))
  f285 := Tryz.func124.trans (congrArg some (by kernel_rfl))
  f286 := Tryz.func125.trans (congrArg some (by kernel_rfl))
  f287 := Tryz.func95.trans (congrArg some (by kernel_rfl))
  f316 := Tryz.func96.trans (congrArg some (by kernel_rfl))
  f317 := Tryz.func136.trans (congrArg some (by kernel_rfl))
  f318 := Tryz.func138.trans (congrArg some (by kernel_rfl))
  f319 := Tryz.func139.trans (congrArg some (by kernel_rfl))
  f320 := Tryz.func140.trans (congrArg some (by kernel_rfl))
  f321 := Tryz.func106.trans (congrArg some (by kernel_rfl))
  f322 := Tryz.func107.trans (congrArg some (by kernel_rfl))
  f337 := Tryz.func149.trans (congrArg some (by kernel_rfl))
  f338 := Tryz.func150.trans (congrArg some (by kernel_rfl))
  t0 := Tryz.underlying0
  a0 := Tryz.isAgg0
  z0 := Tryz.sizeOf0
  v0 := Tryz.zeroValue0
  t2 := Tryz.underlying2
  a2 := Tryz.isAgg2
  z2 := Tryz.sizeOf2
  v2 := Tryz.zeroValue2
  t3 := Tryz.underlying3
  a3 := Tryz.isAgg3
  z3 := Tryz.sizeOf3
  v3 := Tryz.zeroValue3
  t4 := Tryz.underlying4
  a4 := Tryz.isAgg4
  z4 := Tryz.sizeOf4
  v4 := Tryz.zeroValue4
  t5 := Tryz.underlying5
  a5 := Tryz.isAgg5
  z5 := Tryz.sizeOf5
  v5 := Tryz.zeroValue5
  t9 := Tryz.underlying9
  a9 := Tryz.isAgg9
  z9 := Tryz.sizeOf9
  v9 := Tryz.zeroValue9
  t20 := Tryz.underlying20
  a20 := Tryz.isAgg20
  z20 := Tryz.sizeOf20
  v20 := Tryz.zeroValue20
  t21 := Tryz.underlying21
  a21 := Tryz.isAgg21
  z21 := Tryz.sizeOf21
  v21 := Tryz.zeroValue21
  t37 := Tryz.underlying47
  a37 := Tryz.isAgg47
  z37 := Tryz.sizeOf47
  v37 := Tryz.zeroValue47
  t46 := Tryz.underlying132
  a46 := Tryz.isAgg132
  z46 := Tryz.sizeOf132
  v46 := Tryz.zeroValue132
  t51 := Tryz.underlying105
  a51 := Tryz.isAgg105
  z51 := Tryz.sizeOf105
  v51 := Tryz.zeroValue105
  t53 := Tryz.underlying46
  a53 := Tryz.isAgg46
  z53 := Tryz.sizeOf46
  v53 := Tryz.zeroValue46
  t75 := Tryz.underlying80
  a75 := Tryz.isAgg80
  z75 := Tryz.sizeOf80
  v75 := Tryz.zeroValue80
  t76 := Tryz.underlying81
  a76 := Tryz.isAgg81
  z76 := Tryz.sizeOf81
  v76 := Tryz.zeroValue81
  t85 := Tryz.underlying109
  a85 := Tryz.isAgg109
  z85 := Tryz.sizeOf109
  v85 := Tryz.zeroValue109
  t127 := Tryz.underlying130
  a127 := Tryz.isAgg130
  z127 := Tryz.sizeOf130
  v127 := Tryz.zeroValue130
  t143 := Tryz.underlying160
  a143 := Tryz.isAgg160
  z143 := Tryz.sizeOf160
  v143 := Tryz.zeroValue160
  t145 := Tryz.underlying162
  a145 := Tryz.isAgg162
  z145 := Tryz.sizeOf162
  v145 := Tryz.zeroValue162
  t167 := Tryz.underlying108
  a167 := Tryz.isAgg108
  z167 := Tryz.sizeOf108
  v167 := Tryz.zeroValue108
  t168 := Tryz.underlying111
  a168 := Tryz.isAgg111
  z168 := Tryz.sizeOf111
  v168 := Tryz.zeroValue111
  t171 := Tryz.underlying192
  a171 := Tryz.isAgg192
  z171 := Tryz.sizeOf192
  v171 := Tryz.zeroValue192
  t173 := Tryz.underlying195
  a173 := Tryz.isAgg195
  z173 := Tryz.sizeOf195
  v173 := Tryz.zeroValue195
  t175 := Tryz.underlying144
  a175 := Tryz.isAgg144
  z175 := Tryz.sizeOf144
  v175 := Tryz.zeroValue144
  t210 := Tryz.underlying147
  a210 := Tryz.isAgg147
  z210 := Tryz.sizeOf147
  v210 := Tryz.zeroValue147
  t212 := Tryz.underlying208
  a212 := Tryz.isAgg208
  z212 := Tryz.sizeOf208
  v212 := Tryz.zeroValue208
  t213 := Tryz.underlying209
  a213 := Tryz.isAgg209
  z213 := Tryz.sizeOf209
  t232 := Tryz.underlying216
  a232 := Tryz.isAgg216
  z232 := Tryz.sizeOf216
  v232 := Tryz.zeroValue216
  t233 := Tryz.underlying217
  a233 := Tryz.isAgg217
  z233 := Tryz.sizeOf217
  v233 := Tryz.zeroValue217
  g15 := by kernel_rfl
  g16 := by kernel_rfl
  g17 := by kernel_rfl
  g18 := by kernel_rfl
  g19 := by kernel_rfl
  t80 := Tryz.underlying100
  a80 := Tryz.isAgg100
  z80 := Tryz.sizeOf100
  v80 := Tryz.zeroValue100
  i0 := by kernel_rfl
  i2 := by kernel_rfl
  i3 := by kernel_rfl
  i4 := by kernel_rfl
  i5 := by kernel_rfl
  i9 := by kernel_rfl
  i20 := by kernel_rfl
  i21 := by kernel_rfl
  i37 := by kernel_rfl
  i46 := by kernel_rfl
  i51 := by kernel_rfl
  i53 := by kernel_rfl
  i75 := by kernel_rfl
  i76 := by kernel_rfl
  i80 := by kernel_rfl
  i85 := by kernel_rfl
  i127 := by kernel_rfl
  i143 := by kernel_rfl
  i145 := by kernel_rfl
  i167 := by kernel_rfl
  i168 := by kernel_rfl
  i171 := by kernel_rfl
  i173 := by kernel_rfl
  i175 := by kernel_rfl
  i210 := by kernel_rfl
  i212 := by kernel_rfl
  i232 := by kernel_rfl
  i233 := by kernel_rfl
  m15 := by kernel_rfl
  m16 := by kernel_rfl
  m17 := by kernel_rfl
  m18 := by kernel_rfl
  m19 := by kernel_rfl
  c0 := by kernel_rfl
  c2 := by kernel_rfl
  c3 := by kernel_rfl
  c4 := by kernel_rfl
  c5 := by kernel_rfl
  c9 := by kernel_rfl
  c20 := by kernel_rfl
  c21 := by kernel_rfl
  c37 := by kernel_rfl
  c46 := by kernel_rfl
  c51 := by kernel_rfl
  c53 := by kernel_rfl
  c75 := by kernel_rfl
  c76 := by kernel_rfl
  c80 := by kernel_rfl
  c85 := by kernel_rfl
  c127 := by kernel_rfl
  c143 := by kernel_rfl
  c145 := by kernel_rfl
  c167 := by kernel_rfl
  c168 := by kernel_rfl
  c171 := by kernel_rfl
  c173 := by kernel_rfl
  c175 := by kernel_rfl
  c210 := by kernel_rfl
  c212 := by kernel_rfl
  c213 := by kernel_rfl
  c232 := by kernel_rfl
  c233 := by kernel_rfl }
open Go.RowKit in
/-- strconv.Atoi, AT EVERY STRING THAT SPELLS AN int ('Lib.atoiAll .. = .ok v'; of whatever length: leading zeros count): v, AND NO ERROR. The world: as it was, or with the one new row that '[]byte(..)' lays. (LAID: no walk: one application.) -/
theorem Tryz.strconv_Atoi_ok (s : ByteArray) (hmax : s.size ≤ 9223372036854775806) (v : Int) (h : Lib.atoiAll s.data.toList = .ok v) (w : World) :
    Calls Tryz.prog 36 #[.string s] w fun e w' => e = .returned (.tuple #[.int .i64 v, .nilIface]) ∧ (w' = w ∨ ∃ t, w' = Lib.bytesWorld w 5 t) := Any.strconv_Atoi_ok Tryz.laysC172 s hmax v h w
open Go.RowKit in
/-- strconv.Atoi, AT EVERY STRING THAT IS NO DECIMAL NUMERAL: 0, AND AN ERROR THAT IS NOT nil: a *NumError in a new block N: {Func: "Atoi", Num: s's bytes, Err: what the variable ErrSyntax holds}. Of what was there nothing has turned. (LAID: no walk: one application.) -/
theorem Tryz.strconv_Atoi_syntax (s : ByteArray) (hlim : s.size ≤ 281474976710656) (h : Lib.atoiAll s.data.toList ≠ .range ∧ ∀ v, Lib.atoiAll s.data.toList ≠ .ok v) (ev : Value) (w : World) (hv : w.cell? ⟨3, 0, none⟩ = some ev) (hev : ev = .nilIface ∨ ∃ te pe, ev = .iface te pe) :
    Calls Tryz.prog 36 #[.string s] w fun e w' => ∃ N, e = .returned (.tuple #[.int .i64 (0), .iface 111 (.pointer (some ⟨N, 0, none⟩))]) ∧ w.heap.size ≤ N ∧ w'.heap[N]? = some (.cells #[.string ⟨#[65, 116, 111, 105]⟩, .string s, ev] 147 (0, 0)) ∧ Below w.heap.size w w' := by
  cases hh : Lib.atoiAll s.data.toList with
  | ok v => exact absurd hh (h.2 v)
  | range => exact absurd hh h.1
  | _ => exact Any.strconv_Atoi_syntax Tryz.laysC172 s hlim hh ev w hv hev
open Go.RowKit in
/-- strconv.Atoi, AT EVERY NUMERAL THAT NO int HOLDS ('.range'): THE GREATEST OR THE LEAST int, BY THE SIGN ('Lib.atoiSat'), AND AN ERROR THAT IS NOT nil: a *NumError in a new block N: {Func: "Atoi", Num: s's bytes, Err: what the variable ErrRange holds}. Of what was there nothing has turned. (LAID: no walk: one application.) -/
theorem Tryz.strconv_Atoi_range (s : ByteArray) (hlim : s.size ≤ 281474976710656) (h : Lib.atoiAll s.data.toList = .range) (ev : Value) (w : World) (hv : w.cell? ⟨4, 0, none⟩ = some ev) (hev : ev = .nilIface ∨ ∃ te pe, ev = .iface te pe) :
    Calls Tryz.prog 36 #[.string s] w fun e w' => ∃ N, e = .returned (.tuple #[.int .i64 (Lib.atoiSat s.data.toList), .iface 111 (.pointer (some ⟨N, 0, none⟩))]) ∧ w.heap.size ≤ N ∧ w'.heap[N]? = some (.cells #[.string ⟨#[65, 116, 111, 105]⟩, .string s, ev] 147 (0, 0)) ∧ Below w.heap.size w w' := Any.strconv_Atoi_range Tryz.laysC172 s hlim h ev w hv hev
def Tryz.lays138_ren : Go.Shelf.Ren := ⟨fun | 138 => 31 | 195 => 58 | 218 => 59 | 143 => 60 | 219 => 78 | 217 => 89 | 225 => 90 | 224 => 91 | 267 => 92 | 266 => 104 | 314 => 105 | n => n, fun | 9 => 9 | 3 => 3 | 4 => 4 | 5 => 5 | 0 => 0 | 46 => 132 | 146 => 155 | 51 => 105 | n => n, fun | 1 => 1 | n => n⟩
theorem Tryz.lays138 : Go.Proofs.Lays.n138 Tryz.prog Tryz.lays138_ren := {
  mixed := by kernel_rfl
  f138 := Tryz.func31.trans (congrArg some (by kernel_rfl))
  f143 := Tryz.func60.trans (congrArg some (by kernel_rfl))
  f195 := Tryz.func58.trans (congrArg some (by kernel_rfl))
  f217 := Tryz.func89.trans (congrArg some (by kernel_rfl))
  f218 := Tryz.func59.trans (congrArg some (by kernel_rfl))
  f219 := Tryz.func78.trans (congrArg some (by kernel_rfl))
  f224 := Tryz.func91.trans (congrArg some (by kernel_rfl))
  f225 := Tryz.func90.trans (congrArg some (by kernel_rfl))
  f266 := Tryz.func104.trans (congrArg some (by kernel_rfl))
  f267 := Tryz.func92.trans (congrArg some (by kernel_rfl))
  f314 := Tryz.func105.trans (congrArg some (by kernel_rfl))
  t0 := Tryz.underlying0
  a0 := Tryz.isAgg0
  z0 := Tryz.sizeOf0
  v0 := Tryz.zeroValue0
  t3 := Tryz.underlying3
  a3 := Tryz.isAgg3
  z3 := Tryz.sizeOf3
  v3 := Tryz.zeroValue3
  t4 := Tryz.underlying4
  a4 := Tryz.isAgg4
  z4 := Tryz.sizeOf4
  v4 := Tryz.zeroValue4
  t5 := Tryz.underlying5
  a5 := Tryz.isAgg5
  z5 := Tryz.sizeOf5
  v5 := Tryz.zeroValue5
  t9 := Tryz.underlying9
  a9 := Tryz.isAgg9
  z9 := Tryz.sizeOf9
  v9 := Tryz.zeroValue9
  t46 := Tryz.underlying132
  a46 := Tryz.isAgg132
  z46 := Tryz.sizeOf132
  v46 := Tryz.zeroValue132
  t51 := Tryz.underlying105
  a51 := Tryz.isAgg105
  z51 := Tryz.sizeOf105
  v51 := Tryz.zeroValue105
  t146 := Tryz.underlying155
  a146 := Tryz.isAgg155
  z146 := Tryz.sizeOf155
  v146 := Tryz.zeroValue155
  g1 := by kernel_rfl }
open Go.RowKit Go.Lib in
/-- strings.Count AT A substr OF ONE BYTE ('hp'): "Count counts the number of non-overlapping instances of substr in s.": IT RETURNS 'Lib.countByte s (that byte)'; the world is as it was. ✋ NO CONTRACT HERE YET at an empty substr (utf8.RuneCountInString) or at a longer one (a loop over strings.Index). (LAID: no walk: one application.) -/
theorem Tryz.strings_Count_one (s : ByteArray) (c : UInt8) (w : World) :
    Calls Tryz.prog 31 #[.string s, .string ⟨#[c]⟩] w fun e w' => e = .returned (.int .i64 (Lib.countByte s.data.toList c)) ∧ w' = w := Any.strings_Count_one Tryz.lays138 s c w
def Tryz.lays149_ren : Go.Shelf.Ren := ⟨fun | 149 => 32 | 222 => 61 | n => n, fun | 9 => 9 | 5 => 5 | 3 => 3 | 4 => 4 | n => n, fun | n => n⟩
theorem Tryz.lays149 : Go.Proofs.Lays.n149 Tryz.prog Tryz.lays149_ren := {
  mixed := by kernel_rfl
  f149 := Tryz.func32.trans (congrArg some (by kernel_rfl))
  f222 := Tryz.func61.trans (congrArg some (by kernel_rfl))
  t3 := Tryz.underlying3
  a3 := Tryz.isAgg3
  z3 := Tryz.sizeOf3
  v3 := Tryz.zeroValue3
  t4 := Tryz.underlying4
  a4 := Tryz.isAgg4
  z4 := Tryz.sizeOf4
  v4 := Tryz.zeroValue4
  t5 := Tryz.underlying5
  a5 := Tryz.isAgg5
  z5 := Tryz.sizeOf5
  v5 := Tryz.zeroValue5
  t9 := Tryz.underlying9
  a9 := Tryz.isAgg9
  z9 := Tryz.sizeOf9
  v9 := Tryz.zeroValue9 }
open Go.RowKit Go.Lib in
/-- strings.LastIndexByte: "LastIndexByte returns the index of the last instance of c in s, or -1 if c is not present in s." (LAID: no walk: one application.) -/
theorem Tryz.strings_LastIndexByte (s : ByteArray) (c : Int) (hs : s.size < 4611686018427387904) (w : World) :
    Calls Tryz.prog 32 #[.string s, .int .u8 c] w fun e w' => e = .returned (.int .i64 (Lib.lastIndexByte s c)) ∧ w' = w := Any.strings_LastIndexByte Tryz.lays149 s c hs w
def Tryz.lays157_ren : Go.Shelf.Ren := ⟨fun | 157 => 33 | 229 => 62 | 199 => 63 | 261 => 79 | 311 => 93 | 312 => 94 | n => n, fun | 9 => 9 | 31 => 39 | 3 => 3 | 5 => 5 | 4 => 4 | 119 => 88 | 0 => 0 | 40 => 90 | 152 => 102 | 21 => 21 | 154 => 104 | 51 => 105 | 141 => 107 | 196 => 136 | 193 => 133 | 198 => 139 | 49 => 137 | 194 => 134 | 201 => 142 | 226 => 157 | 46 => 132 | 227 => 158 | n => n, fun | 0 => 0 | 6 => 2 | n => n⟩
theorem Tryz.lays157 : Go.Proofs.Lays.n157 Tryz.prog Tryz.lays157_ren := {
  mixed := by kernel_rfl
  f157 := Tryz.func33.trans (congrArg some (by kernel_rfl))
  f199 := Tryz.func63.trans (congrArg some (by kernel_rfl))
  f229 := Tryz.func62.trans (congrArg some (by kernel_rfl))
  f261 := Tryz.func79.trans (congrArg some (by kernel_rfl))
  f311 := Tryz.func93.trans (congrArg some (by kernel_rfl))
  f312 := Tryz.func94.trans (congrArg some (by kernel_rfl))
  t0 := Tryz.underlying0
  a0 := Tryz.isAgg0
  z0 := Tryz.sizeOf0
  v0 := Tryz.zeroValue0
  t3 := Tryz.underlying3
  a3 := Tryz.isAgg3
  z3 := Tryz.sizeOf3
  v3 := Tryz.zeroValue3
  t4 := Tryz.underlying4
  a4 := Tryz.isAgg4
  z4 := Tryz.sizeOf4
  v4 := Tryz.zeroValue4
  t5 := Tryz.underlying5
  a5 := Tryz.isAgg5
  z5 := Tryz.sizeOf5
  v5 := Tryz.zeroValue5
  t9 := Tryz.underlying9
  a9 := Tryz.isAgg9
  z9 := Tryz.sizeOf9
  v9 := Tryz.zeroValue9
  t21 := Tryz.underlying21
  a21 := Tryz.isAgg21
  z21 := Tryz.sizeOf21
  v21 := Tryz.zeroValue21
  t31 := Tryz.underlying39
  a31 := Tryz.isAgg39
  z31 := Tryz.sizeOf39
  v31 := Tryz.zeroValue39
  t40 := Tryz.underlying90
  a40 := Tryz.isAgg90
  z40 := Tryz.sizeOf90
  v40 := Tryz.zeroValue90
  t46 := Tryz.underlying132
  a46 := Tryz.isAgg132
  z46 := Tryz.sizeOf132
  v46 := Tryz.zeroValue132
  t49 := Tryz.underlying137
  a49 := Tryz.isAgg137
  z49 := Tryz.sizeOf137
  v49 := Tryz.zeroValue137
  t51 := Tryz.underlying105
  a51 := Tryz.isAgg105
  z51 := Tryz.sizeOf105
  v51 := Tryz.zeroValue105
  t119 := Tryz.underlying88
  a119 := Tryz.isAgg88
  z119 := Tryz.sizeOf88
  t141 := Tryz.underlying107
  a141 := Tryz.isAgg107
  z141 := Tryz.sizeOf107
  v141 := Tryz.zeroValue107
  t152 := Tryz.underlying102
  a152 := Tryz.isAgg102
  z152 := Tryz.sizeOf102
  v152 := Tryz.zeroValue102
  t154 := Tryz.underlying104
  a154 := Tryz.isAgg104
  z154 := Tryz.sizeOf104
  v154 := Tryz.zeroValue104
  t193 := Tryz.underlying133
  a193 := Tryz.isAgg133
  z193 := Tryz.sizeOf133
  v193 := Tryz.zeroValue133
  t194 := Tryz.underlying134
  a194 := Tryz.isAgg134
  z194 := Tryz.sizeOf134
  v194 := Tryz.zeroValue134
  t196 := Tryz.underlying136
  a196 := Tryz.isAgg136
  z196 := Tryz.sizeOf136
  v196 := Tryz.zeroValue136
  t198 := Tryz.underlying139
  a198 := Tryz.isAgg139
  z198 := Tryz.sizeOf139
  v198 := Tryz.zeroValue139
  t201 := Tryz.underlying142
  a201 := Tryz.isAgg142
  z201 := Tryz.sizeOf142
  v201 := Tryz.zeroValue142
  t226 := Tryz.underlying157
  a226 := Tryz.isAgg157
  z226 := Tryz.sizeOf157
  v226 := Tryz.zeroValue157
  t227 := Tryz.underlying158
  a227 := Tryz.isAgg158
  z227 := Tryz.sizeOf158
  v227 := Tryz.zeroValue158
  g0 := by kernel_rfl
  g6 := by kernel_rfl }
open Go.RowKit Go.Lib in
/-- strings.Fields, the table by 'Lib.TabIs' (as strings.TrimSpace's contract). 'hg': the table's number, by its name: at a dump 'by kernel_rfl'. (LAID: no walk: one application.) -/
theorem Tryz.strings_Fields (s : ByteArray) (w : World) (hs : s.size < 4294967281) (hascii : ∀ (j : Nat) b, s.data.toList[j]? = some b → b.toNat < 128) (htab : Lib.TabIs Tryz.prog w "strings.asciiSpace" .u8 Lib.asciiSpaceTab) :
    Calls Tryz.prog 33 #[.string s] w fun e w' =>
      e = .returned (.slice (some ⟨w.heap.size, 0, none⟩) (Lib.fields s.data.toList).length (Lib.fields s.data.toList).length) ∧ w' = w.alloc (.cells ((Lib.fields s.data.toList).map fun l => Value.string ⟨l.toArray⟩).toArray 9) := Any.strings_Fields Tryz.lays157 (by kernel_rfl) (by kernel_rfl) s w hs hascii htab
end Go.Proofs
namespace Go.Proofs.YtgibkdldfnlglaaGreatDoor
open Go.Abs Go.RowKit
/-- what the contracts ask of the program's variables -/
structure GlobL (w : World) : Prop where
  errSyntax : ∃ g t p, Tryz.prog.globalNamed "strconv.ErrSyntax" = some g ∧ g < 8 ∧ w.cell? ⟨g, 0, none⟩ = some (.iface t p)
  errRange : ∃ g t p, Tryz.prog.globalNamed "strconv.ErrRange" = some g ∧ g < 8 ∧ w.cell? ⟨g, 0, none⟩ = some (.iface t p)
  space : ∃ g, Tryz.prog.globalNamed "strings.asciiSpace" = some g ∧ g < 8 ∧ Lib.TabIs Tryz.prog w "strings.asciiSpace" .u8 Lib.asciiSpaceTab
def globA : HA :=
  ⟨fun w o _ => 8 ≤ w.heap.size ∧ (∀ b, b < 8 → o b = .no) ∧ GlobL w, fun {w w' o o' k k'} hs _ h2 h => by
    obtain ⟨a1, a2, a3⟩ := h
    have hb : ∀ b, b < 8 → w'.heap[b]? = w.heap[b]? := fun b hb => (h2 b (by omega) (a2 b hb)).2
    refine ⟨by omega, fun b hb => (h2 b (by omega) (a2 b hb)).1, ?_⟩
    obtain ⟨⟨g2, t2, p2, e2, l2, f2⟩, ⟨g3, t3, p3, e3, l3, f3⟩, ⟨g4, e4, l4, f4⟩⟩ := a3
    refine ⟨⟨g2, t2, p2, e2, l2, by rw [cell_of_block (hb g2 l2)]; exact f2⟩, ⟨g3, t3, p3, e3, l3, by rw [cell_of_block (hb g3 l3)]; exact f3⟩, ⟨g4, e4, l4, ?_⟩⟩
    unfold Lib.TabIs World.var? at f4 ⊢
    rw [e4] at f4 ⊢
    simp only [Option.bind_some] at f4 ⊢
    rw [hb g4 l4]; exact f4⟩
theorem free_globA : Free globA := fun _ _ _ _ _ ho h => ⟨h.1, fun b hb => ho b (Nat.lt_of_lt_of_le hb h.1) (h.2.1 b hb), h.2.2⟩
theorem views_glob : Views globA globA false := views_free free_globA
theorem gSyn : Tryz.prog.globalNamed "strconv.ErrSyntax" = some 3 := by kernel_rfl
theorem gRng : Tryz.prog.globalNamed "strconv.ErrRange" = some 4 := by kernel_rfl
theorem gSpc : Tryz.prog.globalNamed "strings.asciiSpace" = some 0 := by kernel_rfl
def idxH (s : List UInt8) (c : Int) : Option Int := some (idxP s c.toNat.toUInt8)
theorem idxH_ok (s : List UInt8) (c : Int) {r : Int} (h : idxH s c = some r) : Meets Tryz.prog 74 [.string (bs s), .int .u8 c] [] (fun v G => v = .int .i64 r ∧ G = []) := by
  obtain rfl := Option.some.inj h
  intro w o hb hs
  refine (Tryz.strings_IndexByte (bs s) c w).mono ?_
  rintro e w' ⟨rfl, rfl⟩
  exact ends_below hb (Below.refl _ _) ⟨by rw [← idxP_eq]; rfl, rfl⟩ sats_nil
def atoiH (s : List UInt8) : Option (Int × Bool) := need (s.length ≤ 4294967296) (some (atoiP s))
theorem atoiH_ok (s : List UInt8) {r : Int × Bool} (h : atoiH s = some r) : Meets Tryz.prog 36 [.string (bs s)] [globA] (fun v G => ∃ v0, v = .tuple #[.int .i64 r.1, v0] ∧ G = [oif v0 r.2]) := by
  obtain ⟨hl, h⟩ := need_some h
  obtain rfl := Option.some.inj h
  intro w o hb hs
  have hg : GlobL w := (hs 0 _ rfl).2.2
  have hsz : (bs s).size = s.length := by simp [bs, ByteArray.size]
  have hd : (bs s).data.toList = s := by simp [bs]
  unfold atoiP
  cases ha : Lib.atoiAll s with
  | ok v =>
    refine (Tryz.strconv_Atoi_ok (bs s) (by omega) v (by rw [hd]; exact ha) w).mono ?_
    rintro e w' ⟨rfl, hw⟩
    have hbl : Below w.heap.size w w' := by
      rcases hw with rfl | ⟨t, rfl⟩
      · exact Below.refl _ _
      · exact Lib.bytesWorld_below _ _ _
    exact ends_below hb hbl ⟨_, rfl, rfl⟩ fun j g hj => by
      cases j with
      | zero => obtain rfl := Option.some.inj hj; exact .inl ⟨rfl, rfl⟩
      | succ j => simp at hj
  | range =>
    obtain ⟨g, t, p, e1, _, e2⟩ := hg.errRange
    obtain rfl := Option.some.inj (gRng.symm.trans e1)
    refine (Tryz.strconv_Atoi_range (bs s) (by omega) (by rw [hd]; exact ha) _ w e2 (.inr ⟨t, p, rfl⟩)).mono ?_
    rintro e w' ⟨M, rfl, _, _, hbl⟩
    exact ends_below hb hbl ⟨_, by rw [hd], rfl⟩ fun j g hj => by
      cases j with
      | zero => obtain rfl := Option.some.inj hj; exact .inr ⟨⟨_, _, rfl⟩, rfl⟩
      | succ j => simp at hj
  | _ =>
    obtain ⟨g, t, p, e1, _, e2⟩ := hg.errSyntax
    obtain rfl := Option.some.inj (gSyn.symm.trans e1)
    refine (Tryz.strconv_Atoi_syntax (bs s) (by omega) (by rw [hd, ha]; exact ⟨fun q => (by cases q), fun v q => (by cases q)⟩) _ w e2 (.inr ⟨t, p, rfl⟩)).mono ?_
    rintro e w' ⟨M, rfl, _, _, hbl⟩
    exact ends_below hb hbl ⟨_, rfl, rfl⟩ fun j g hj => by
      cases j with
      | zero => obtain rfl := Option.some.inj hj; exact .inr ⟨⟨_, _, rfl⟩, rfl⟩
      | succ j => simp at hj
theorem cntF_le : ∀ (l : List UInt8) (b : Bool), Lib.cntF b l ≤ l.length
  | [], _ => Nat.le_refl _
  | c :: l, b => by
    have := cntF_le l (Lib.isSp c)
    unfold Lib.cntF
    split <;> simp <;> omega
def fieldsH (s : List UInt8) : Option (List (List UInt8)) := need (s.length ≤ 1073741824 ∧ ∀ b ∈ s, b.toNat < 128) (some (Lib.fields s))
theorem fieldsH_ok (s : List UInt8) {r : List (List UInt8)} (h : fieldsH s = some r) : Meets Tryz.prog 33 [.string (bs s)] [globA] (fun v G => ∃ v0, v = v0 ∧ G = [row v0 1 (r.map eStr)]) := by
  obtain ⟨⟨hl, ha⟩, h⟩ := need_some h
  obtain rfl := Option.some.inj h
  intro w o hb hs
  have hg : GlobL w := (hs 0 _ rfl).2.2
  obtain ⟨g, e1, _, e2⟩ := hg.space
  have hsz : (bs s).size = s.length := by simp [bs, ByteArray.size]
  have hd : (bs s).data.toList = s := by simp [bs]
  refine (Tryz.strings_Fields (bs s) w (by omega) (fun j b hj => ha b (by rw [hd] at hj; exact List.mem_of_getElem? hj)) e2).mono ?_
  rintro e w' ⟨rfl, rfl⟩
  rw [hd]
  have hlen : (Lib.fields s).length ≤ s.length := by
    unfold Lib.fields
    rw [Lib.fieldsGo_length]
    have := cntF_le s true
    simpa using this
  refine ⟨_, _, fun b => if b = w.heap.size then .mine 0 else o b, rfl, ⟨_, rfl, rfl⟩, ?_, ?_, ?_⟩
  · intro b hb'
    simp [World.alloc, -World.alloc_eq] at hb'
    simp only [show ¬ b = w.heap.size by omega, if_false]
    exact hb b (by omega)
  · refine ⟨rfl, rfl, rfl, by simp [World.alloc, -World.alloc_eq], fun b hlt ho => ⟨by simp only [show ¬ b = w.heap.size by omega, if_false]; exact ho, Below.heap_alloc _ _ _ hlt⟩, fun b hlt ho => ⟨by simp only [show ¬ b = w.heap.size by omega, if_false]; exact ho, Below.heap_alloc _ _ _ hlt⟩⟩
  · intro j g hj
    cases j with
    | succ j => simp at hj
    | zero =>
      obtain rfl := Option.some.inj hj
      refine .inr ⟨w.heap.size, 0, (Lib.fields s).length, ((Lib.fields s).map fun l => Value.string ⟨l.toArray⟩).toArray, 9, (0, 0), by simp, by simp, by simp [World.alloc, -World.alloc_eq], by simp [World.alloc, -World.alloc_eq], .inl (Nat.le_refl _), by simp, by simp, ?_, ?_, ?_⟩
      · have : (4294967296 : Nat) ≤ maxLen := by decide
        omega
      · intro c' hc'
        obtain ⟨x, _, rfl⟩ := List.mem_map.1 hc'
        rfl
      · intro i c' hi j x hj
        simp only [List.getElem?_map, Option.map_eq_some_iff] at hi
        obtain ⟨y, hy, rfl⟩ := hi
        cases j with
        | succ j => simp [eStr] at hj
        | zero =>
          obtain rfl : Value.string (bs y) = x := by simpa [eStr] using hj
          simp [hy, bs]
def countH (s sep : List UInt8) : Option Int := match sep with | [c] => some ((s.count c : Nat) : Int) | _ => none
theorem countH_ok (s sep : List UInt8) {r : Int} (h : countH s sep = some r) : Meets Tryz.prog 31 [.string (bs s), .string (bs sep)] [] (fun v G => v = .int .i64 r ∧ G = []) := by
  match sep, h with
  | [c], h =>
    obtain rfl := Option.some.inj h
    intro w o hb hs
    refine (Tryz.strings_Count_one (bs s) c w).mono ?_
    rintro e w' ⟨rfl, rfl⟩
    exact ends_below hb (Below.refl _ _) ⟨by simp [bs, Lib.countByte], rfl⟩ sats_nil
def lastH (s : List UInt8) (c : Int) : Option Int := need (s.length ≤ 4294967296) (some (Lib.lastIndexByte (bs s) c))
theorem lastH_ok (s : List UInt8) (c : Int) {r : Int} (h : lastH s c = some r) : Meets Tryz.prog 32 [.string (bs s), .int .u8 c] [] (fun v G => v = .int .i64 r ∧ G = []) := by
  obtain ⟨hl, h⟩ := need_some h
  obtain rfl := Option.some.inj h
  intro w o hb hs
  refine (Tryz.strings_LastIndexByte (bs s) c (by simp [bs, ByteArray.size]; omega) w).mono ?_
  rintro e w' ⟨rfl, rfl⟩
  exact ends_below hb (Below.refl _ _) ⟨rfl, rfl⟩ sats_nil
def joinH (l : List (List UInt8)) (sep : List UInt8) : Option (List UInt8) := need (l.length ≤ 4294967296 ∧ (joinP l sep).length ≤ 4294967296) (some (joinP l sep))
theorem joinH_ok (l : List (List UInt8)) (sep : List UInt8) (v : Value) {r : List UInt8} (h : joinH l sep = some r) : Meets Tryz.prog 39 [v, .string (bs sep)] [ro v 1 (l.map eStr)] (fun v G => v = .string (bs r) ∧ G = []) := by
  obtain ⟨⟨h2, h3⟩, h⟩ := need_some h
  obtain rfl := Option.some.inj h
  intro w o hb hs
  obtain ⟨a, cap, rfl, c1, c2, c3, c4⟩ := hs 0 _ rfl
  by_cases h1 : 0 < l.length
  rotate_left
  · obtain rfl : l = [] := List.length_eq_zero_iff.1 (by omega)
    refine (Tryz.strings_Join_none a cap (bs sep) w).mono ?_
    rintro e w' ⟨rfl, rfl⟩
    exact ends_below hb (Below.refl _ _) ⟨by simp [joinP, bs], rfl⟩ sats_nil
  obtain ⟨x0, hx0⟩ : ∃ x, l[0]? = some x := ⟨_, List.getElem?_eq_getElem h1⟩
  obtain ⟨_, b, off, rfl, c5, c6, c7⟩ := c4 0 (eStr x0) (by simp [hx0])
  have hm : (l.map bs).map (fun x => x.data.toList) = l := by
    rw [List.map_map]
    conv => rhs; rw [← List.map_id l]
    exact List.map_congr_left fun x _ => by simp [bs]
  have hsep : (bs sep).data.toList = sep := by simp [bs]
  have := Tryz.strings_Join b off cap (l.map bs) (bs sep) w (fun j x hj => by
    simp only [List.getElem?_map, Option.map_eq_some_iff] at hj
    obtain ⟨y, hy, rfl⟩ := hj
    obtain ⟨_, b', off', e', _, _, c8⟩ := c4 j (eStr y) (by simp [hy])
    obtain ⟨rfl, rfl⟩ : b' = b ∧ off' = off := by simp only [Option.some.injEq, Addr.mk.injEq] at e'; exact ⟨e'.1.symm, e'.2.1.symm⟩
    have := c8 0 _ rfl
    simpa using this) c5 (by simp; omega) (by simpa using c1) (by rw [hm, hsep]; show (joinP l sep).length ≤ _; omega)
  simp only [List.length_map] at this ⊢
  refine this.mono ?_
  rintro e w' ⟨rfl, hbl⟩
  rw [hm, hsep]
  exact ends_below hb hbl ⟨rfl, rfl⟩ sats_nil
end Go.Proofs.YtgibkdldfnlglaaGreatDoor
namespace Go.Proofs.YtgibkdldfnlglaaGreatDoor
open Go.Abs
set_option maxRecDepth 20000
theorem tokRec_ret (a b c : Nat) (H : List HA) : RecD Tryz.prog 26 [boxP a 0, boxP b 0, boxP c 0] .returning .returning H H := by
  refine recD_of Tryz.func26 rfl Tryz.ntmps26 rfl (fun w0 o0 c0 cf hu => ?_)
  refine runS_seq (runS_region [0, 1] rfl ?_)
  refine opsS_recover (v := .nilIface) (cs' := c0 :: cf) rfl rfl (by simp [recoverD, hu]) ?_
  refine opsS_y rfl rfl rfl (y_assign rfl) ?_
  refine opsS_nil (opsS_next ?_)
  refine runS_seq (runS_region [0, 1] rfl ?_)
  refine opsS_y rfl rfl rfl (y_move rfl) ?_
  refine opsS_y rfl rfl rfl (y_ifne (v := .nilIface) (b := true) Tryz.runUnderlying20 rfl (.inl ⟨rfl, rfl⟩)) ?_
  refine opsS_nil (opsS_next ?_)
  refine runS_cond_f rfl ?_
  exact runS_skip (leafS Tryz.results26 (congrArg (· :: cf) (mode_same hu)))
theorem tokRec_pan (a b c : Nat) (e va : Int) {H : List HA} (i j k : Nat) {x y1 y2 : Value} (hi : H[i]? = some (box a [.int .i64 va])) (hj : H[j]? = some (box b [x])) (hk : H[k]? = some (box c [y1, y2])) (hjk : j ≠ k) :
    RecD Tryz.prog 26 [boxP a 0, boxP b 0, boxP c 0] (.panicking [{ v := .iface 24 (.int .i64 e), recovered := false }]) (.panicking [{ v := .iface 24 (.int .i64 e), recovered := true }]) H
      ((H.set j (box b [.slice none 0 0])).set k (box c [.int .i64 va, .int .i64 e])) := by
  refine recD_of Tryz.func26 rfl Tryz.ntmps26 rfl (fun w0 o0 c0 cf hu => ?_)
  refine runS_seq (runS_region [0, 1] rfl ?_)
  refine opsS_recover (v := .iface 24 (.int .i64 e)) (cs' := { c0 with mode := .panicking [{ v := .iface 24 (.int .i64 e), recovered := true }] } :: cf) rfl rfl (by simp [recoverD, hu]) ?_
  refine opsS_y rfl rfl rfl (y_assign rfl) ?_
  refine opsS_nil (opsS_next ?_)
  refine runS_seq (runS_region [0, 1] rfl ?_)
  refine opsS_y rfl rfl rfl (y_move rfl) ?_
  refine opsS_y rfl rfl rfl (y_ifne (v := .iface 24 (.int .i64 e)) (b := false) Tryz.runUnderlying20 rfl (.inr ⟨⟨_, _, rfl⟩, rfl⟩)) ?_
  refine opsS_nil (opsS_next ?_)
  refine runS_cond_t rfl ?_
  refine runS_of (fun L hL => ?_)
  refine run_seq ?_
  refine run_region' ?_
  refine ops_y (wn rfl) rfl (y_move rfl) ?_
  refine ops_y (wn rfl) rfl (y_assert2 Tryz.runUnderlying24 rfl rfl) ?_
  refine ops_y (wn rfl) rfl (y_move rfl) ?_
  refine ops_y (wn rfl) rfl (y_extract rfl rfl) ?_
  refine ops_y (wn rfl) rfl (y_extract rfl rfl) ?_
  refine ops_y (wn rfl) rfl (y_assign rfl) ?_
  refine ops_y (wn rfl) rfl (y_assign rfl) ?_
  refine ops_nil ?_
  refine goes_code ?_
  refine run_seq ?_
  refine run_seq ?_
  refine run_region' ?_
  refine ops_y (wn rfl) rfl (y_move rfl) ?_
  refine ops_y (wn rfl) rfl (y_not rfl) ?_
  refine ops_nil ?_
  refine goes_code ?_
  refine run_cond_f rfl ?_
  refine run_skip ?_
  refine goes_code ?_
  refine run_region' ?_
  refine ops_y (wn rfl) rfl (y_load_box i Tryz.isAgg3 rfl hi rfl) ?_
  refine ops_y (wn rfl) rfl (y_move rfl) ?_
  refine ops_y (wn rfl) rfl (y_build_struct (cells := #[.int .i64 va, .int .i64 e]) [(0, .int .i64 va), (1, .int .i64 e)] [(0, [.int .i64 va]), (1, [.int .i64 e])] Tryz.zeroValue26 Tryz.runUnderlying26 (fs_cons Tryz.sizeOf3 (fs_cons Tryz.sizeOf24 fs_nil)) rfl rfl rfl) ?_
  refine ops_t (wn rfl) rfl (t_store (b := b) (off := 0) (vs := [x]) (v := .slice none 0 0) j Tryz.sizeOf23 rfl rfl hj rfl (by simp) (by simp [Value.cells, Value.oneCell'])) ?_
  rintro _ _ ⟨rfl, rfl⟩
  refine ops_t (wn rfl) rfl (t_store_all (b := c) (c := [.int .i64 va, .int .i64 e]) k Tryz.sizeOf26 rfl rfl (by rw [List.getElem?_set_ne hjk]; exact hk) rfl rfl (by simp [Value.oneCell'])) ?_
  rintro _ _ ⟨rfl, rfl⟩
  refine ops_nil ?_
  exact fun a w r => hL _ _ (leafS Tryz.results26 rfl) a w r
end Go.Proofs.YtgibkdldfnlglaaGreatDoor
namespace Go.Abs
set_option linter.unusedSimpArgs false
section
variable {V : VF} {H : List HA} {P : Program} {d : Option Nat} {ty : TypeId} {pos : String} {af : Array Edge} {g : Option (Nat × Bool)}
theorem t_s2b {S T el : TypeId} {x : Operand} {l : List UInt8} (hS : P.underlying S = some .string) (hT : P.underlying T = some (.slice el)) (he : P.underlying el = some (.int .u8)) (hx : V.ev x = some (.string (bs l))) (hl : l.length ≤ 4294967296) :
    OpT P ⟨d, .convert S T x, ty, pos, af, g⟩ V H (fun v' H' => (∃ a c, v' = .slice (some a) l.length c) ∧ H' = H ++ [row v' 1 (u8c l)]) := by
  intro ρ w o hf hbd hs
  have hsz : (bs l).size = l.length := by simp [bs, ByteArray.size]
  have hrun : (execOp ρ ⟨d, .convert S T x, ty, pos, af, g⟩).run P w = .ok (.value (.slice (some ⟨w.heap.size, 0, none⟩) l.length (grownCap w l.length 0 el)))
      (w.drew.alloc (.cells (bytesRow (bs l) (grownCap w l.length 0 el)) el ((bytesRow (bs l) (grownCap w l.length 0 el)).size, (bytesRow (bs l) (grownCap w l.length 0 el)).size + 1))) := by
    have := run_bytes_of_string (P := P) w S T el (bs l) hS hT he
    rw [hsz] at this
    simp [execOp, hf x _ hx, this]
  unfold Does
  rw [hrun]
  have hge := grownCap_ge w l.length 0 el
  have hle := grownCap_le_maxLen w l.length 0 el (by unfold maxLen; omega)
  generalize grownCap w l.length 0 el = c at hge hle ⊢
  have hsz2 : (bytesRow (bs l) c).size = c := by
    have hd : (bs l).data.size = l.length := by simp [bs]
    unfold bytesRow
    rw [hsz, Array.size_append, Array.size_map, Array.size_replicate, hd]
    omega
  have hn' : Nw w (.cells (bytesRow (bs l) c) el ((bytesRow (bs l) c).size, (bytesRow (bs l) c).size + 1)) (w.drew.alloc (.cells (bytesRow (bs l) c) el ((bytesRow (bs l) c).size, (bytesRow (bs l) c).size + 1))) := nw_push w _ _
  have hrow : RowIs (w.drew.alloc (.cells (bytesRow (bs l) c) el ((bytesRow (bs l) c).size, (bytesRow (bs l) c).size + 1))) (fun b => addOwn o w.heap.size H.length b = .mine H.length) (.slice (some ⟨w.heap.size, 0, none⟩) l.length c) 1 (u8c l) := by
    refine .inr ⟨w.heap.size, 0, c, bytesRow (bs l) c, el, _, by simp [u8c], by simp [addOwn], by rw [hn'.size]; omega, hn'.here, .inr (Nat.le_refl _), by rw [hsz2]; simp, by simpa [u8c] using hge, hle, ?_, ?_⟩
    · intro x hx
      obtain ⟨b, _, rfl⟩ := List.mem_map.1 hx
      rfl
    · intro i x hi j y hj
      simp only [u8c, List.getElem?_map, Option.map_eq_some_iff] at hi
      obtain ⟨b, hb, rfl⟩ := hi
      cases j with
      | succ j => simp at hj
      | zero =>
        obtain rfl : Value.int .u8 b.toNat = y := by simpa using hj
        have hlt := (List.getElem?_eq_some_iff.1 hb).1
        unfold bytesRow
        rw [Array.getElem?_append_left (by simp [bs]; omega)]
        simp [bs, hb]
  obtain ⟨h1, h2, h3⟩ := sats_new (g := row (.slice (some ⟨w.heap.size, 0, none⟩) l.length c) 1 (u8c l)) hbd hn' hs hrow
  exact ⟨_, _, ⟨⟨_, _, rfl⟩, rfl⟩, h1, h2, h3⟩
theorem t_makeCap {T el : TypeId} {z : Value} {ti : TypeInfo} {x y : Operand} {n : Int} {es : Nat} (hu : ∀ w, (underlying T).run P w = .ok (.slice el) w) (hti : ∀ w, (typeInfo el).run P w = .ok ti w) (hes : ti.size = es) (h0 : ∀ w, (zeroValue el).run P w = .ok z w)
    (hzs : z.cells.size = es) (hpos : es ≠ 0) (hx : V.ev x = some (.int .i64 0)) (hy : V.ev y = some (.int .i64 n)) (hn0 : 0 < n) (hn1 : n ≤ 4294967296) (hb : ti.bytes ≤ 16384) :
    OpT P ⟨d, .makeSlice T x y, ty, pos, af, g⟩ V H (fun v' H' => (∃ a c, v' = .slice a 0 c) ∧ H' = H ++ [row v' es []]) := by
  intro ρ w o hf hbd hs
  have hw : IntKind.i64.wrap n = n := wrap_i64 (by omega) (by omega)
  have hw0 : IntKind.i64.wrap 0 = 0 := wrap_i64 (by omega) (by omega)
  have hsz : ∀ w, (sizeOf el).run P w = .ok es w := fun w => by simp [sizeOf, hti, hes]
  have hbn : (ti.bytes : Int) * n ≤ 16384 * 4294967296 := by
    have h1 : (ti.bytes : Int) * n ≤ 16384 * n := Int.mul_le_mul_of_nonneg_right (by omega) (by omega)
    omega
  have hbig : ¬ (281474976710656 : Int) < (ti.bytes : Int) * n := by omega
  have hroom : ¬ roomBytes < n.toNat * ti.bytes := by
    have h1 : n.toNat * ti.bytes ≤ 4294967296 * 16384 := Nat.mul_le_mul (by omega) hb
    have h2 : 4294967296 * 16384 ≤ roomBytes := by unfold roomBytes; decide
    omega
  have hfl := rep_flat n.toNat z.cells (by omega)
  have hne : ¬ n.toNat * es = 0 := by
    intro h; rcases Nat.mul_eq_zero.1 h with h | h <;> omega
  have hrun : (execOp ρ ⟨d, .makeSlice T x y, ty, pos, af, g⟩).run P w = .ok (.value (.slice (some ⟨w.heap.size, 0, none⟩) 0 n.toNat)) { w with heap := w.heap.push (.cells (List.replicate n.toNat z.cells.toList).flatten.toArray el) } := by
    simp [execOp, Instr.makeSlice, hf x _ hx, hf y _ hy, hu, asInt, asIntOf, hti, hw, hw0, hbig, Int.not_lt.2 (Int.le_of_lt hn0), askRoom, hroom, hsz, hne, h0, newRow]
    rw [← hfl, hzs]
  unfold Does
  rw [hrun]
  have hn' := nw_push w (.cells (List.replicate n.toNat z.cells.toList).flatten.toArray el) w.drawn
  have hrow : RowIs { w with heap := w.heap.push (.cells (List.replicate n.toNat z.cells.toList).flatten.toArray el) } (fun b => addOwn o w.heap.size H.length b = .mine H.length) (.slice (some ⟨w.heap.size, 0, none⟩) 0 n.toNat) es [] := by
    refine .inr ⟨w.heap.size, 0, n.toNat, (List.replicate n.toNat z.cells.toList).flatten.toArray, el, (0, 0), by simp, by simp [addOwn], by simp, by simp, .inl (Nat.le_refl _), ?_, by simp, by unfold maxLen; omega, by simp, by simp⟩
    rw [List.size_toArray, rep_len]; simp [hzs]
  obtain ⟨h1, h2, h3⟩ := sats_new (g := row (.slice (some ⟨w.heap.size, 0, none⟩) 0 n.toNat) es []) hbd hn' hs hrow
  exact ⟨_, _, ⟨⟨_, _, rfl⟩, rfl⟩, h1, h2, h3⟩
/-- a method's value: the receiver is held -/
theorem y_makeBound {f : FuncId} {fs : Array Operand} {vs : List Value} (h : fs.toList.map V.ev = vs.map some) : OpY P ⟨d, .makeFunc (.func f) fs #[], ty, pos, af, g⟩ V H (.func (.func f) vs.toArray #[]) := by
  intro ρ w o hf _ _
  have : fs.map ρ = vs.toArray := by
    apply Array.ext'
    rw [Array.toList_map]
    generalize fs.toList = l at h
    induction l generalizing vs with
    | nil => cases vs <;> simp_all
    | cons x r ih =>
      cases vs with
      | nil => simp at h
      | cons v vs =>
        simp only [List.map_cons, List.cons.injEq] at h ⊢
        exact ⟨hf _ _ h.1, ih h.2⟩
  simp [execOp, Instr.makeFunc, this]
end
end Go.Abs
