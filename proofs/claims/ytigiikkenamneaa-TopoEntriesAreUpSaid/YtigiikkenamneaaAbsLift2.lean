/-
  More for lifted functions: elements as cells, a store into a row, regions whose order is open and that do more than read.
-/
import Derived.Test.YtigiikkenamneaaAbsLift
namespace Go.Abs
theorem after_go {S R : Type} {s : S} {k : S → Option R} {r : R} (h : After (.go s) k r) : k s = some r := h
theorem after_stop {S R : Type} {e : R} {k : S → Option R} {r : R} (h : After (.stop e) k r) : e = r := h
def eInt (k : IntKind) (n : Int) : List Value := [.int k n]
theorem eInt_ok (k : IntKind) (n : Int) : (eInt k n).length = 1 ∧ ∀ u ∈ eInt k n, u.oneCell' = true := ⟨rfl, fun u h => by simp [eInt] at h; subst h; rfl⟩
def eB8 (b : UInt8) : List Value := [.int .u8 b.toNat]
theorem eB8_ok (n : UInt8) : (eB8 n).length = 1 ∧ ∀ u ∈ eB8 n, u.oneCell' = true := ⟨rfl, fun u h => by simp [eB8] at h; subst h; rfl⟩
def eBool (b : Bool) : List Value := [.bool b]
theorem eBool_ok (b : Bool) : (eBool b).length = 1 ∧ ∀ u ∈ eBool b, u.oneCell' = true := ⟨rfl, fun u h => by simp [eBool] at h; subst h; rfl⟩
def eStr (b : List UInt8) : List Value := [.string (bs b)]
theorem eStr_ok (b : List UInt8) : (eStr b).length = 1 ∧ ∀ u ∈ eStr b, u.oneCell' = true := ⟨rfl, fun u h => by simp [eStr] at h; subst h; rfl⟩
theorem map_set_at {α : Type} {F : α → List Value} {l : List α} {i : Nat} {c : List Value} {y : α} (h : c = F y) : (l.map F).set i c = (l.set i y).map F := by rw [h, List.map_set]

variable {E : Env} {k : List KI} {V : VF} {H : List HA}
section
variable {P : Program} {d : Option Nat} {ty : TypeId} {pos : String} {af : Array Edge} {g : Option (Nat × Bool)}
theorem wrL_length (c : List Value) (j : Nat) (ys : List Value) : (wrL c j ys).length = c.length := by simp [wrL, size_writeAt]
theorem wrL_get (c : List Value) (j : Nat) (ys : List Value) (m : Nat) (h : j + ys.length ≤ c.length) : (wrL c j ys)[m]? = if j ≤ m ∧ m < j + ys.length then ys[m - j]? else c[m]? := by
  have := get_writeAt ys c.toArray j m (by simpa using h)
  simpa [wrL] using this
/-- a store into an element of a row of the call's own -/
theorem t_store_row {T : TypeId} {x y : Operand} {v r : Value} {es i j n : Nat} {c : List Value} {cells : List (List Value)} (m : Nat) (hz : ∀ w, (sizeOf T).run P w = .ok n w) (hx : V.ev x = some (elemP v (i * es + j))) (hy : V.ev y = some r)
    (hm : H[m]? = some (row v es cells)) (hn : r.cells.size = n) (hc : cells[i]? = some c) (hl : Nat.ble (j + n) es = true) (h1 : ∀ u ∈ r.cells.toList, u.oneCell' = true) :
    OpT P ⟨d, .store T x y, ty, pos, af, g⟩ V H (fun v' H' => v' = undef ∧ H' = H.set m (row v es (cells.set i (wrL c j r.cells.toList)))) := by
  intro ρ w o hf hbd hs
  have hle : j + n ≤ es := Nat.le_of_ble_eq_true hl
  rcases hs m _ hm with ⟨_, h0⟩ | ⟨b, off, cap, arr, T', fz, e1, e2, e3, e4, e5, e6, e7, e8, e9, e10⟩
  · rw [h0] at hc; simp at hc
  have hlt : i < cells.length := (List.getElem?_eq_some_iff.1 hc).1
  have hce := e9 c (List.mem_of_getElem? hc)
  have hroom : off + (i * es + j) + r.cells.toList.length ≤ arr.size := by
    rw [e6, Array.length_toList, hn]
    have : (i + 1) * es ≤ cap * es := Nat.mul_le_mul_right _ (by omega)
    rw [Nat.succ_mul] at this; omega
  obtain ⟨w', h2, h3⟩ := run_storeCells (P := P) r.cells.toList 0 arr w e4 e5 (off := off + (i * es + j)) (by omega) h1
  have hrun : (execOp ρ ⟨d, .store T x y, ty, pos, af, g⟩).run P w = .ok .skip w' := by
    subst e1
    simp [execOp, hf x _ hx, hf y _ hy, Instr.storeAt, Instr.sureAddr, elemP, Value.sbase, storeVar, hz, hn, h2]
  unfold Does
  rw [hrun]
  refine ⟨_, o, ⟨rfl, rfl⟩, fun b' hb' => hbd b' (by rw [h3.size] at hb'; exact hb'), ⟨h3.os, h3.tape, h3.output, by rw [h3.size]; exact Nat.le_refl _, fun b' hlt hb' => ⟨hb', h3.other b' ?_⟩, fun b' hlt hb' => ⟨hb', h3.other b' ?_⟩⟩, ?_⟩
  · rintro rfl; rw [e2] at hb'; cases hb'
  · rintro rfl; rw [e2] at hb'; cases hb'
  · refine sats_upd (by rw [h3.size]; exact Nat.le_refl _) (fun b' hlt hb' => ⟨rfl, h3.other b' ?_⟩) hs (.inr ⟨b, off, cap, _, T', fz, by rw [List.length_set]; exact e1, e2, by rw [h3.size]; exact e3, h3.here, by rw [size_writeAt]; exact e5, by rw [size_writeAt]; exact e6,
      by rw [List.length_set]; exact e7, e8, ?_, ?_⟩)
    · rintro rfl; exact hb' e2
    · intro c' hc'
      rcases List.mem_or_eq_of_mem_set hc' with h | rfl
      · exact e9 c' h
      · rw [wrL_length]; exact hce
    · intro i' c' hi' j' x' hj'
      rw [Nat.add_zero, get_writeAt _ _ _ _ hroom]
      rw [Array.length_toList, hn]
      by_cases hii : i = i'
      · subst hii
        rw [List.getElem?_set_self hlt] at hi'
        simp at hi'
        subst hi'
        rw [wrL_get _ _ _ _ (by rw [Array.length_toList, hn, hce]; exact hle), Array.length_toList, hn] at hj'
        by_cases hjj : j ≤ j' ∧ j' < j + n
        · rw [if_pos hjj] at hj'
          rw [if_pos (by omega)]
          rw [← hj']; congr 1; omega
        · rw [if_neg hjj] at hj'
          rw [if_neg (by omega)]
          exact e10 i c hc j' x' hj'
      · rw [List.getElem?_set_ne hii] at hi'
        have hjl : j' < es := by
          have h1 := (List.getElem?_eq_some_iff.1 hj').1
          rw [e9 c' (List.mem_of_getElem? hi')] at h1; exact h1
        have : ¬ (off + (i * es + j) ≤ off + i' * es + j' ∧ off + i' * es + j' < off + (i * es + j) + n) := by
          rintro ⟨ha, hb⟩
          rcases Nat.lt_or_ge i i' with h | h
          · have : (i + 1) * es ≤ i' * es := Nat.mul_le_mul_right _ h
            rw [Nat.succ_mul] at this; omega
          · have : (i' + 1) * es ≤ i * es := Nat.mul_le_mul_right _ (by omega)
            rw [Nat.succ_mul] at this; omega
        rw [if_neg this]
        exact e10 i' c' hi' j' x' hj'
end

/-! a region whose order is open -/
def SH (E : Env) (Hs : List HA) (w : World) : Prop := ∃ o, Bnd w o ∧ Tr E.w0 E.o0 w o ∧ Sats w o Hs
def Sub (H Hs : List HA) : Prop := ∀ (j : Nat) (h : HA), Hs[j]? = some h → (∀ w o k, h.p w o k) ∨ H[j]? = some h
theorem sub_nil {H : List HA} : Sub H [] := fun j h hj => by simp at hj
theorem sub_same {H Hs : List HA} {h : HA} (r : Sub H Hs) : Sub (h :: H) (h :: Hs) := fun j x hj => by
  cases j with
  | zero => exact .inr hj
  | succ j => exact r j x hj
theorem sub_emp {H Hs : List HA} {h : HA} (r : Sub H Hs) : Sub (h :: H) (HA.emp :: Hs) := fun j x hj => by
  cases j with
  | zero => simp at hj; subst hj; exact .inl fun _ _ _ => trivial
  | succ j => exact r j x hj
theorem Sub.sats {Hs : List HA} {w : World} {o : Own} (h : Sub H Hs) (hs : Sats w o H) : Sats w o Hs := fun j x hj => (h j x hj).elim (fun h => h w o j) (fun h => hs j x h)
def AnyL (E : Env) (ops : Array Oper) (listed : Array Bool) (fuel : Nat) (k : List KI) (V : VF) (H Hs : List HA) : Prop :=
  ∀ a w, Rel E V H a w → wpAnyH E.P .any ops (Qof E k) (SH E Hs) fuel listed a w
def AnyO (E : Env) (ops : Array Oper) (listed : Array Bool) (fuel : Nat) (k : List KI) (V : VF) (H Hs : List HA) (i : Nat) : Prop :=
  ∀ a w, Rel E V H a w → wpOp E.P ops (Qof E k) i (fun a' w' => SH E Hs w' ∧ wpAnyH E.P .any ops (Qof E k) (SH E Hs) fuel (listed.setIfInBounds i true) a' w') a w

theorem Qof_panic {d : Option Nat} {v : Value} : ∀ (k : List KI) (c : List PanicEntry) (a : Act) (w : World), Qof E k (.panic c) (a.put d v) w → Qof E k (.panic c) a w
  | [], c, a, w, h => E.np c a d v w h
  | .code _ :: k, c, a, w, h => Qof_panic k c a w h
  | .blk _ :: k, c, a, w, h => Qof_panic k c a w h
  | .scope :: k, c, a, w, h => Qof_panic k c a w h
  | .loop _ :: k, c, a, w, h => Qof_panic k c a w h

theorem run_drawany {id : Nat} {l : List Oper} (Hs : List HA) (hm : E.P.follows .mixedOrders = true) (h : AnyL E l.toArray (Array.replicate l.length false) l.length k V H Hs) (hnd : noDef E.r l.toArray = true := by exact rfl) : Run E (.region id l.toArray true) k V H := by
  intro a w r
  refine wpAnyH_in (S := SH E Hs) (Qof_out k) hnd hm ?_
  have := h a _ r.drew
  simpa using this

variable {ops : Array Oper} {op : Oper} {listed : Array Bool} {fuel : Nat} {Hs : List HA}
theorem any_y {v : Value} (i : Nat) (hi : ops[i]? = some op) (hs : Region.noSelect ops = true) (hf : Region.free .any ops listed i = true) (hr : (Region.ready .any ops listed).contains i = true) (hsub : Sub H Hs)
    (hw : Wants E.n ops V op) (hd : inB E.n op.dst = true) (h : OpY E.P op V Hs v) (hk : AnyL E ops (listed.setIfInBounds i true) fuel k (V.put op.dst v) H Hs) : AnyL E ops listed (fuel + 1) k V H Hs := by
  intro a w r
  have hS : SH E Hs w := by
    obtain ⟨_, _, _, o, hb, ht, hst⟩ := r
    exact ⟨o, hb, ht.tr, hsub.sats hst⟩
  refine wpAnyH_take hi hs hf hr (fun c a w hq => Qof_panic k c a w hq) (.inl ⟨hw.wanted r, fun w' ⟨o, hb, ht, hst⟩ => h a.eval w' o r.fits hb hst⟩) hS ?_
  obtain ⟨h1, h2, h3, o, hb, ht, hst⟩ := r
  exact hk _ w (Rel.put h1 h2 h3 hd hb ht (Tr.refl w o) hst)
theorem any_no (i : Nat) (hi : ops[i]? = some op) (hs : Region.noSelect ops = true) (hf : Region.free .any ops listed i = true) (hr : (Region.ready .any ops listed).contains i = true) (hsub : Sub H Hs)
    (j : Nat) (b : Bool) (t : Nat) (hg : op.guard = some (j, b)) (hj : ((ops[j]?).bind (·.dst)) = some t) (hv : V t = some (.bool (!b))) (ht : Nat.blt t E.n = true) (hd : inB E.n op.dst = true)
    (hk : AnyL E ops (listed.setIfInBounds i true) fuel k (V.put op.dst undef) H Hs) : AnyL E ops listed (fuel + 1) k V H Hs := by
  intro a w r
  have hS : SH E Hs w := by
    obtain ⟨_, _, _, o, hb, ht, hst⟩ := r
    exact ⟨o, hb, ht.tr, hsub.sats hst⟩
  have h2 := getD_some r.1 ht (r.2.2.1 t _ hv)
  refine wpAnyH_take hi hs hf hr (fun c a w hq => Qof_panic k c a w hq) (.inr ⟨by cases b <;> simp [Region.wanted, hg, yielded, hj, h2], rfl⟩) hS ?_
  obtain ⟨h1, h2, h3, o, hb, ht, hst⟩ := r
  exact hk _ w (Rel.put h1 h2 h3 hd hb ht (Tr.refl w o) hst)
theorem any_all (rs : List Nat) (hr : Region.ready .any ops listed = rs) (hne : rs.isEmpty = false) (h : ∀ i ∈ rs, AnyO E ops listed fuel k V H Hs i) : AnyL E ops listed (fuel + 1) k V H Hs := by
  intro a w r
  exact wpAnyH_all hr (by rintro rfl; simp at hne) fun i hi => h i hi a w r
theorem anyo_nil : ∀ i ∈ ([] : List Nat), AnyO E ops listed fuel k V H Hs i := fun i hi => by simp at hi
theorem anyo_cons {i : Nat} {rs : List Nat} (h : AnyO E ops listed fuel k V H Hs i) (hr : ∀ j ∈ rs, AnyO E ops listed fuel k V H Hs j) : ∀ j ∈ i :: rs, AnyO E ops listed fuel k V H Hs j := by
  intro j hj
  rcases List.mem_cons.1 hj with rfl | hj
  · exact h
  · exact hr j hj
theorem any_t {post : Post} {i : Nat} (hi : ops[i]? = some op) (hw : Wants E.n ops V op) (hd : inB E.n op.dst = true) (h : OpT E.P op V H post)
    (hk : ∀ v H', post v H' → Sub H' Hs ∧ AnyL E ops (listed.setIfInBounds i true) fuel k (V.put op.dst v) H' Hs) : AnyO E ops listed fuel k V H Hs i := by
  intro a w r
  unfold wpOp
  simp only [hi]
  rw [if_pos (hw.wanted r)]
  refine .inl ?_
  have hf := r.fits
  obtain ⟨h1, h2, h3, o, hb, ht, hs⟩ := r
  have := h a.eval w o hf hb hs
  unfold Oper.wp
  unfold Does at this
  generalize (execOp a.eval op).run E.P w = x at *
  cases x with
  | halt x w' => simp at this
  | ok nx w' =>
    cases nx <;> simp only [Oper.upon] at this ⊢
    case value v =>
      obtain ⟨H', o', hp, hb', ht', hs'⟩ := this
      exact ⟨⟨o', hb', ht.tr.trans ht', (hk v H' hp).1.sats hs'⟩, (hk v H' hp).2 _ _ (Rel.put h1 h2 h3 hd hb' ht ht' hs')⟩
    case skip =>
      obtain ⟨H', o', hp, hb', ht', hs'⟩ := this
      exact ⟨⟨o', hb', ht.tr.trans ht', (hk _ H' hp).1.sats hs'⟩, (hk _ H' hp).2 _ _ (Rel.put h1 h2 h3 hd hb' ht ht' hs')⟩
    case enter f args =>
      refine this.mono ?_
      rintro e w'' ⟨v, rfl, H', o', hp, hb', ht', hs'⟩
      exact ⟨⟨o', hb', ht.tr.trans ht', (hk v H' hp).1.sats hs'⟩, (hk v H' hp).2 _ _ (Rel.put h1 h2 h3 hd hb' ht ht' hs')⟩
theorem any_nil (hr : Region.ready .any ops listed = []) (h : Goes E k V H) : AnyL E ops listed fuel k V H Hs := fun a w r => wpAnyH_done hr (h a w r) fuel
theorem any_turn {H' : List HA} (h : Turn H H') (hk : AnyL E ops listed fuel k V H' Hs) : AnyL E ops listed fuel k V H Hs := fun a w r => hk a w (r.turn h)
theorem any_split (t : Nat) (b : Bool) (hv : V t = some (.bool b)) (ht : b = true → AnyL E ops listed fuel k (V.set t (.bool true)) H Hs)
    (hf : b = false → AnyL E ops listed fuel k (V.set t (.bool false)) H Hs) : AnyL E ops listed fuel k V H Hs := by
  have same : ∀ c, b = c → ∀ a, Agree V a → Agree (V.set t (.bool c)) a := by
    intro c hc a ha u x hx
    rcases VF.set_eq hx with ⟨rfl, rfl⟩ | ⟨_, hx⟩
    · exact hc ▸ ha u _ hv
    · exact ha u x hx
  intro a w r
  cases hb : b with
  | true => exact ht hb a w ⟨r.1, r.2.1, same _ hb a r.2.2.1, r.2.2.2⟩
  | false => exact hf hb a w ⟨r.1, r.2.1, same _ hb a r.2.2.1, r.2.2.2⟩
end Go.Abs
namespace Go.Abs
variable {E : Env} {k : List KI} {V : VF} {H : List HA}
/-- whatever the way through c: the same state behind it -/
theorem run_mid {c : Code} (S : Type) (Vi : S → List (Nat × Value)) (Hi : S → List HA)
    (h1 : ∀ L : Act → World → Prop, (∀ s, True → ∀ a w, Rel E (VF.of (Vi s)) (Hi s) a w → L a w) → Run E c (.loop L :: k) V H)
    (h2 : ∀ s, Goes E k (VF.of (Vi s)) (Hi s)) : Run E c k V H := by
  intro a w r
  refine wpIn_mono (h1 (fun a w => Qof E k .normal a w) (fun s _ a w hr => h2 s a w hr) a w r) ?_
  intro e a w hq
  cases e <;> exact hq
end Go.Abs
namespace Go.Abs
variable {E : Env} {k : List KI} {V : VF} {H : List HA} {ops : Array Oper} {listed : Array Bool} {fuel : Nat} {Hs : List HA}
theorem anyo_turn {H' : List HA} {i : Nat} (h : Turn H H') (hk : AnyO E ops listed fuel k V H' Hs i) : AnyO E ops listed fuel k V H Hs i := fun a w r => hk a w (r.turn h)
theorem still_turn {l : List Oper} {H' : List HA} (h : Turn H H') (hk : StillL E ops l k V H') : StillL E ops l k V H := fun a w r => hk a w (r.turn h)
theorem Rel.isslice {a : Act} {w : World} (m : Nat) {h : HA} {v : Value} {es : Nat} {cells : List (List Value)} (hm : H[m]? = some h) (hr : Reads h v es cells) (q : Rel E V H a w) : v.cells = #[v] := by
  obtain ⟨h1, h2, h3, o, hb, ht, hs⟩ := q
  obtain ⟨x, cap, e, _⟩ := hr.is w o m (hs m h hm)
  rw [e]; rfl
theorem any_isslice (m : Nat) {h : HA} {v : Value} {es : Nat} {cells : List (List Value)} (hm : H[m]? = some h) (hr : Reads h v es cells) (hk : v.cells = #[v] → AnyL E ops listed fuel k V H Hs) : AnyL E ops listed fuel k V H Hs :=
  fun a w q => hk (q.isslice m hm hr) a w q
theorem anyo_isslice {i : Nat} (m : Nat) {h : HA} {v : Value} {es : Nat} {cells : List (List Value)} (hm : H[m]? = some h) (hr : Reads h v es cells) (hk : v.cells = #[v] → AnyO E ops listed fuel k V H Hs i) : AnyO E ops listed fuel k V H Hs i :=
  fun a w q => hk (q.isslice m hm hr) a w q
theorem still_isslice {l : List Oper} (m : Nat) {h : HA} {v : Value} {es : Nat} {cells : List (List Value)} (hm : H[m]? = some h) (hr : Reads h v es cells) (hk : v.cells = #[v] → StillL E ops l k V H) : StillL E ops l k V H :=
  fun a w q => hk (q.isslice m hm hr) a w q
end Go.Abs
namespace Go.Abs
variable {E : Env} {k : List KI} {V : VF} {H : List HA} {ops : Array Oper} {listed : Array Bool} {fuel : Nat} {Hs : List HA}
theorem any_weak {listed' : Array Bool} (l : List (Nat × Value)) (is : List Nat) (G : List HA) (hL : listed = listed') (hl : ∀ x ∈ l, V x.1 = some x.2) (hn : is.Nodup) (hG : Picks is H G)
    (h : AnyL E ops listed' fuel k (VF.of l) G Hs) : AnyL E ops listed fuel k V H Hs := by
  subst hL
  exact fun a w r => h a w ((r.vle (VF.le_of l hl)).pick hn hG)
theorem any_cut {fuel0 : Nat} {listed0 : Array Bool} (listed : Array Bool) (fuel : Nat) (S : Type) (Vi : S → List (Nat × Value)) (Hi : S → List HA) (inv : S → Prop)
    (h1 : (∀ s, inv s → AnyL E ops listed fuel k (VF.of (Vi s)) (Hi s) Hs) → AnyL E ops listed0 fuel0 k V H Hs)
    (h2 : ∀ s, inv s → AnyL E ops listed fuel k (VF.of (Vi s)) (Hi s) Hs) : AnyL E ops listed0 fuel0 k V H Hs := h1 h2
theorem any_un {op : Oper} (i : Nat) (hi : ops[i]? = some op) (hs : Region.noSelect ops = true) (hf : Region.free .any ops listed i = true) (hr : (Region.ready .any ops listed).contains i = true) (hsub : Sub H Hs)
    (j : Nat) (b : Bool) (t : Nat) (hg : op.guard = some (j, b)) (hj : ((ops[j]?).bind (·.dst)) = some t) (hv : V t = some undef) (ht : Nat.blt t E.n = true) (hd : inB E.n op.dst = true)
    (hk : AnyL E ops (listed.setIfInBounds i true) fuel k (V.put op.dst undef) H Hs) : AnyL E ops listed (fuel + 1) k V H Hs := by
  intro a w r
  have hS : SH E Hs w := by
    obtain ⟨_, _, _, o, hb, ht, hst⟩ := r
    exact ⟨o, hb, ht.tr, hsub.sats hst⟩
  have h2 := getD_some r.1 ht (r.2.2.1 t _ hv)
  refine wpAnyH_take hi hs hf hr (fun c a w hq => Qof_panic k c a w hq) (.inr ⟨by cases b <;> simp [Region.wanted, hg, yielded, hj, h2, undef], rfl⟩) hS ?_
  obtain ⟨h1, h2, h3, o, hb, ht, hst⟩ := r
  exact hk _ w (Rel.put h1 h2 h3 hd hb ht (Tr.refl w o) hst)
end Go.Abs
namespace Go.Abs
variable {E : Env} {k : List KI} {V : VF} {H : List HA} {ops : Array Oper} {listed : Array Bool} {fuel : Nat} {Hs : List HA}
theorem Rel.slc {a : Act} {w : World} (m : Nat) {h : HA} {v : Value} {es : Nat} {cells : List (List Value)} (hm : H[m]? = some h) (hr : Reads h v es cells) (q : Rel E V H a w) : v.cells = #[v] ∧ v.oneCell' = true := by
  obtain ⟨h1, h2, h3, o, hb, ht, hs⟩ := q
  obtain ⟨x, cap, e, _⟩ := hr.is w o m (hs m h hm)
  rw [e]; exact ⟨rfl, rfl⟩
theorem ops_slc {l : List Oper} (m : Nat) {h : HA} {v : Value} {es : Nat} {cells : List (List Value)} (hm : H[m]? = some h) (hr : Reads h v es cells) (hk : v.cells = #[v] → v.oneCell' = true → Ops E ops l k V H) : Ops E ops l k V H :=
  fun a w q => hk (q.slc m hm hr).1 (q.slc m hm hr).2 a w q
theorem any_slc (m : Nat) {h : HA} {v : Value} {es : Nat} {cells : List (List Value)} (hm : H[m]? = some h) (hr : Reads h v es cells) (hk : v.cells = #[v] → v.oneCell' = true → AnyL E ops listed fuel k V H Hs) : AnyL E ops listed fuel k V H Hs :=
  fun a w q => hk (q.slc m hm hr).1 (q.slc m hm hr).2 a w q
theorem anyo_slc {i : Nat} (m : Nat) {h : HA} {v : Value} {es : Nat} {cells : List (List Value)} (hm : H[m]? = some h) (hr : Reads h v es cells) (hk : v.cells = #[v] → v.oneCell' = true → AnyO E ops listed fuel k V H Hs i) : AnyO E ops listed fuel k V H Hs i :=
  fun a w q => hk (q.slc m hm hr).1 (q.slc m hm hr).2 a w q
theorem still_slc {l : List Oper} (m : Nat) {h : HA} {v : Value} {es : Nat} {cells : List (List Value)} (hm : H[m]? = some h) (hr : Reads h v es cells) (hk : v.cells = #[v] → v.oneCell' = true → StillL E ops l k V H) : StillL E ops l k V H :=
  fun a w q => hk (q.slc m hm hr).1 (q.slc m hm hr).2 a w q
end Go.Abs
