/-
  The plain law TopoGoingBackRestores.
-/
import Derived.Test.YtigiikkenamneaaM8
import Derived.Test.YtigiikkenamneaaBW6
namespace Go.Proofs.Ytigiikkenamneaa
open Go.Abs
set_option linter.unusedSimpArgs false
set_option linter.unusedVariables false
abbrev Ty4 := Int × Int × Int × Bool × (List (List Int)) × (List S_api_Order) × Int × Int × Int × Int × Int × Int × Int × Int × Int × Int × Int × Int
def T4 (F : S_api_Fleet) (q : S_4_api_Node) : Ty4 := (F.Base, F.Done, F.Serial, F.Stopped, F.Stages, F.Orders, q.a0_.Site, q.a0_.Version, q.a0_.Serial, q.a1_.Site, q.a1_.Version, q.a1_.Serial, q.a2_.Site, q.a2_.Version, q.a2_.Serial, q.a3_.Site, q.a3_.Version, q.a3_.Serial)
def F4 (t : Ty4) : S_api_Fleet := ⟨t.1, t.2.1, t.2.2.1, t.2.2.2.1, t.2.2.2.2.1, t.2.2.2.2.2.1⟩
def Q4 (t : Ty4) : S_4_api_Node := ⟨⟨t.2.2.2.2.2.2.1, t.2.2.2.2.2.2.2.1, t.2.2.2.2.2.2.2.2.1⟩, ⟨t.2.2.2.2.2.2.2.2.2.1, t.2.2.2.2.2.2.2.2.2.2.1, t.2.2.2.2.2.2.2.2.2.2.2.1⟩, ⟨t.2.2.2.2.2.2.2.2.2.2.2.2.1, t.2.2.2.2.2.2.2.2.2.2.2.2.2.1, t.2.2.2.2.2.2.2.2.2.2.2.2.2.2.1⟩, ⟨t.2.2.2.2.2.2.2.2.2.2.2.2.2.2.2.1, t.2.2.2.2.2.2.2.2.2.2.2.2.2.2.2.2.1, t.2.2.2.2.2.2.2.2.2.2.2.2.2.2.2.2.2⟩⟩
theorem f4_t4 (F : S_api_Fleet) (q : S_4_api_Node) : F4 (T4 F q) = F := rfl
theorem q4_t4 (F : S_api_Fleet) (q : S_4_api_Node) : Q4 (T4 F q) = q := rfl
theorem back_L3 (m : Nat) (i : Int) (F : S_api_Fleet) (q : S_4_api_Node) : law42_TopoGoingBackRestores_L3 m (i, T4 F q) =
    cond (decide (i < 4)) (obind (topo_OrderOf m F i) fun r => need (0 ≤ i ∧ i < 4) (obind (some (S_4_api_Node.get q i)) fun x => obind (topo_Apply x r.1) fun y => need (0 ≤ i ∧ i < 4) (obind (some (S_4_api_Node.put q i y)) fun z => need (0 ≤ i ∧ i < 4) (obind (some (S_4_api_Node.get z i)) fun u => obind (topo_Confirm m F i u.Serial) fun s =>
      cond (decide (r.2 ≠ 0) || decide (s.2 ≠ 0)) (some (.stop (.stop (.stop (.stop (.stop false)))))) (some (.go (IntKind.i64.wrap (i + 1), T4 s.1 z))))))) (some (.stop (.go (T4 F q)))) := rfl
/-- the site's node after it has got its order -/
def zz (o : Nat → S_api_Order) (i : Nat) : S_api_Node := ⟨i, (o i).Version, (o i).Serial⟩
theorem apply_zz {B : Int} {o : Nat → S_api_Order} {x : S_api_Node} {i : Nat} (h : NI B (o i) x i) : (if (zz o i).Site ≠ x.Site ∨ (zz o i).Serial ≤ x.Serial then x else zz o i) = zz o i := by
  obtain ⟨k1, k2, k3, k4, k5, k6⟩ := h
  by_cases c : (zz o i).Site ≠ x.Site ∨ (zz o i).Serial ≤ x.Serial
  · rw [if_pos c]
    have : (o i).Serial ≤ x.Serial := by
      rcases c with c | c
      · exact absurd k1.symm c
      · exact c
    have e : x.Serial = (o i).Serial := by omega
    have ev := k4 e
    cases x with
    | mk a b d =>
      (try simp only at k1 e ev)
      unfold zz
      rw [k1, e, ev]
  · rw [if_neg c]
theorem back_step {F : S_api_Fleet} {c : Option (Nat → Nat)} {o : Nat → S_api_Order} {nd : Nat → S_api_Node} (h : FI F c o) (hn : ∀ i, i < 4 → NI F.Base (o i) (nd i) i) {i : Nat} (hi : i < 4) (m : Nat) (hm : 10 ≤ m) :
    law42_TopoGoingBackRestores_L3 m ((i : Int), T4 F (nodes4 nd)) = some (.go (((i + 1 : Nat) : Int), T4 (fc F o i (o i).Serial) (nodes4 (upd nd i (zz o i))))) ∧ FI (fc F o i (o i).Serial) c (oc o i (o i).Serial) ∧ ∀ j, j < 4 → NI F.Base (oc o i (o i).Serial j) (upd nd i (zz o i) j) j := by
  have k := h.each i hi
  have k0 := k.h0; have k1 := k.hs; have kv := k.ver
  refine ⟨?_, confirm_fi h (by omega) (Int.le_refl _), fun j hj => ?_⟩
  · rw [back_L3]
    have e : decide ((i : Int) < 4) = true := by rw [decide_eq_true_iff]; omega
    rw [e, cond_true, orderOf_eq h hi m hm]
    simp only [obind, Option.bind_some]
    rw [need_pos (by omega), get4 hi, apply_eq]
    have ez := apply_zz (hn i hi)
    simp only [Option.bind_some]
    rw [show (if (⟨(i : Int), (o i).Version, (o i).Serial⟩ : S_api_Node).Site ≠ (nd i).Site ∨ (⟨(i : Int), (o i).Version, (o i).Serial⟩ : S_api_Node).Serial ≤ (nd i).Serial then nd i else ⟨(i : Int), (o i).Version, (o i).Serial⟩) = zz o i from ez]
    rw [need_pos (by omega), put4 hi]
    (try simp only [Option.bind_some])
    rw [need_pos (by omega), get4 hi]
    have eu : upd nd i (zz o i) i = zz o i := by unfold upd; rw [if_pos rfl]
    simp only [Option.bind_some, eu]
    rw [show (zz o i).Serial = (o i).Serial from rfl, confirm_eq h hi (by omega) (Int.le_refl _) m hm]
    simp only [Option.bind_some]
    rw [w64 (by omega) (by omega)]
    simp
  · by_cases e : j = i
    · subst e
      unfold upd oc
      rw [if_pos rfl, if_pos rfl]
      refine ⟨rfl, by simp only [zz]; omega, by simp [zz], fun _ => rfl, ?_, ?_⟩
      · simp only [zz]; rw [kv]; split <;> omega
      · simp only [zz]; rw [kv]; split <;> omega
    · unfold upd oc
      rw [if_neg e, if_neg e]; exact hn j hj
/-- all four sites get their orders and tell what they have -/
theorem back_four {F : S_api_Fleet} {c : Option (Nat → Nat)} {o : Nat → S_api_Order} {nd : Nat → S_api_Node} (h : FI F c o) (hn : ∀ i, i < 4 → NI F.Base (o i) (nd i) i) (m : Nat) (hm : 10 ≤ m) :
    ∃ F' o' nd', iter (law42_TopoGoingBackRestores_L3 m) m (0, T4 F (nodes4 nd)) = some (.go (T4 F' (nodes4 nd'))) ∧ FI F' c o' ∧ (∀ i, i < 4 → NI F'.Base (o' i) (nd' i) i) ∧ F'.Base = F.Base ∧ F'.Done = F.Done ∧ F'.Serial = F.Serial ∧ F'.Stopped = F.Stopped ∧ F'.Stages = F.Stages ∧ Sett o' ∧ ∀ i, i < 4 → (nd' i).Version = (o' i).Version := by
  obtain ⟨s0, f0, n0⟩ := back_step h hn (i := 0) (by decide) m hm
  obtain ⟨s1, f1, n1⟩ := back_step f0 n0 (i := 1) (by decide) m hm
  obtain ⟨s2, f2, n2⟩ := back_step f1 n1 (i := 2) (by decide) m hm
  obtain ⟨s3, f3, n3⟩ := back_step f2 n2 (i := 3) (by decide) m hm
  have hr : iter (law42_TopoGoingBackRestores_L3 m) m (((0 : Nat) : Int), T4 F (nodes4 nd)) = _ := run4 s0 s1 s2 s3 (r := .go (T4 _ _)) (by rw [back_L3]; rfl) m hm
  refine ⟨_, _, _, hr, f3, n3, rfl, rfl, rfl, rfl, rfl, ?_, ?_⟩
  · have q0 := (h.each 0 (by decide)).hs; have q1 := (h.each 1 (by decide)).hs; have q2 := (h.each 2 (by decide)).hs; have q3 := (h.each 3 (by decide)).hs
    intro i hi
    match i, hi with
    | 0, _ => simp [oc]; omega
    | 1, _ => simp [oc]; omega
    | 2, _ => simp [oc]; omega
    | 3, _ => simp [oc]; omega
  · intro i hi
    match i, hi with
    | 0, _ => simp [upd, zz, oc]
    | 1, _ => simp [upd, zz, oc]
    | 2, _ => simp [upd, zz, oc]
    | 3, _ => simp [upd, zz, oc]
theorem settle_eq {F : S_api_Fleet} {c : Option (Nat → Nat)} {o : Nat → S_api_Order} (h : FI F c o) (hs : Sett o) (m : Nat) (hm : 10 ≤ m) : topo_Settled m F = some true := by
  unfold topo_Settled
  rw [h.valid m hm]
  simp only [obind, Option.bind_some, cond_true]
  rw [settled_eq h.ord m hm]
  simp [hs]
/-- a round: the orders arrive, then one step back or on -/
theorem back_L2 (m : Nat) (back : Bool) (k : Int) (F : S_api_Fleet) (q : S_4_api_Node) : law42_TopoGoingBackRestores_L2 m back (k, T4 F q) =
    cond (decide (k < 10)) (bindJ (S := Ty4) (bindJ (S := Ty4) (iter (law42_TopoGoingBackRestores_L3 m) m (0, T4 F q)) fun t =>
      obind (topo_Settled m (F4 t)) fun r => cond (!r) (some (.stop (.stop (.stop false)))) (bindJ (S := Int × Int × Int × Bool × (List (List Int)) × (List S_api_Order)) (cond (back && decide (0 < (F4 t).Done)) (obind (topo_Retreat m (F4 t)) fun u => cond (decide (u.2 ≠ 0)) (some (.stop (.stop (.stop (.stop false))))) (some (.go (u.1.Base, u.1.Done, u.1.Serial, u.1.Stopped, u.1.Stages, u.1.Orders)))) (some (.go ((F4 t).Base, (F4 t).Done, (F4 t).Serial, (F4 t).Stopped, (F4 t).Stages, (F4 t).Orders)))) fun p =>
        cond ((!back) && decide (p.2.1 < (p.2.2.2.2.1.length : Int))) (obind (topo_Forward m ⟨p.1, p.2.1, p.2.2.1, p.2.2.2.1, p.2.2.2.2.1, p.2.2.2.2.2⟩) fun u => cond (decide (u.2 ≠ 0)) (some (.stop (.stop (.stop false)))) (some (.go (T4 u.1 (Q4 t))))) (some (.go (T4 ⟨p.1, p.2.1, p.2.2.1, p.2.2.2.1, p.2.2.2.2.1, p.2.2.2.2.2⟩ (Q4 t))))))
      fun t => some (.go (IntKind.i64.wrap (k + 1), t))) (some (.stop (.go (T4 F q)))) := rfl
/-- what holds before the round k -/
structure RI (B : Int) (c : Option (Nat → Nat)) (back : Bool) (k : Nat) (F : S_api_Fleet) (o : Nat → S_api_Order) (nd : Nat → S_api_Node) : Prop where
  fi : FI F c o
  node : ∀ i, i < 4 → NI F.Base (o i) (nd i) i
  base : F.Base = B
  ser : F.Serial ≤ 2000 + (k : Int)
  stop : F.Stopped = false
  prog : if back = true then F.Done ≤ 3 - (k : Int) ∨ F.Done = 0 else c = none ∨ (k : Int) ≤ F.Done ∨ F.Done = 3
  last : 4 ≤ k → Sett o ∧ ∀ i, i < 4 → (nd i).Version = (o i).Version
theorem back_round {B : Int} {c : Option (Nat → Nat)} {back : Bool} {k : Nat} (hk : k < 10) {F : S_api_Fleet} {o : Nat → S_api_Order} {nd : Nat → S_api_Node} (h : RI B c back k F o nd) (m : Nat) (hm : 10 ≤ m) :
    ∃ F' o' nd', law42_TopoGoingBackRestores_L2 m back ((k : Int), T4 F (nodes4 nd)) = some (.go (((k + 1 : Nat) : Int), T4 F' (nodes4 nd'))) ∧ RI B c back (k + 1) F' o' nd' := by
  have hser := h.ser
  have hbase := h.base
  obtain ⟨F1, o1, nd1, e1, f1, n1, b1, b2, b3, b4, b5, hse, hve⟩ := back_four h.fi h.node m hm
  rw [back_L2]
  have e : decide ((k : Int) < 10) = true := by rw [decide_eq_true_iff]; omega
  rw [e, cond_true, e1, bindJ_go, f4_t4, q4_t4, settle_eq f1 hse m hm]
  simp only [obind, Option.bind_some, Bool.not_true, cond_false]
  have hdn := f1.n1; have hd0 := f1.n0
  have wk : IntKind.i64.wrap ((k : Int) + 1) = ((k + 1 : Nat) : Int) := by rw [w64 (by omega) (by omega)]; simp
  have hprog := h.prog
  cases back with
  | true =>
    simp only [if_true] at hprog
    simp only [Bool.true_and, Bool.not_true, Bool.false_and, cond_false]
    rcases retreat_eq f1 (by omega) m hm with ⟨f, rfl, hd, er⟩ | ⟨hd, er⟩
    · have ed : decide (0 < F1.Done) = true := by rw [decide_eq_true_iff]; exact hd
      rw [ed, cond_true, er]
      simp only [Option.bind_some, ne_eq, not_true_eq_false, decide_false, cond_false, bindJ_go, wk]
      refine ⟨_, _, nd1, rfl, retreat_fi f1 (by omega) hd, fun i hi => later_ni (later_ordd f1 _ _ _) hi (n1 i hi), by simp only [fo]; omega, by simp only [fo]; omega, by simp only [fo]; rw [b4]; exact h.stop, ?_, fun h4 => by omega⟩
      simp only [if_true, fo]; omega
    · have ed : decide (0 < F1.Done) = false := by rw [decide_eq_false_iff_not]; omega
      rw [ed, cond_false]
      simp only [bindJ_go, wk]
      exact ⟨F1, o1, nd1, rfl, f1, n1, by omega, by omega, by rw [b4]; exact h.stop, by simp only [if_true]; omega, fun _ => ⟨hse, hve⟩⟩
  | false =>
    simp only [Bool.false_eq_true, if_false] at hprog
    simp only [Bool.false_and, cond_false, bindJ_go, Bool.not_false, Bool.true_and]
    rcases forward_eq f1 (by omega) m hm with ⟨f, rfl, hd, hst, _, er⟩ | ⟨hno, er⟩
    · have es := f1.stg
      simp only [sts] at es
      have ed : decide (F1.Done < (F1.Stages.length : Int)) = true := by rw [decide_eq_true_iff, es, stg_len]; omega
      rw [ed, cond_true, fl_eta, er]
      simp only [Option.bind_some, ne_eq, not_true_eq_false, decide_false, cond_false, bindJ_go, wk]
      refine ⟨_, _, nd1, rfl, forward_fi f1 (by omega) hd, fun i hi => later_ni (later_ordd f1 _ _ _) hi (n1 i hi), by simp only [fo]; omega, by simp only [fo]; omega, by simp only [fo]; rw [b4]; exact h.stop, ?_, fun h4 => ?_⟩
      · simp only [Bool.false_eq_true, if_false, fo]
        rcases hprog with q | q | q
        · exact .inl q
        · exact .inr (.inl (by omega))
        · exact .inr (.inl (by omega))
      · exfalso
        rcases hprog with q | q | q
        · cases q
        · omega
        · omega
    · have hst : F1.Stopped = false := by rw [b4]; exact h.stop
      have ed : decide (F1.Done < (F1.Stages.length : Int)) = false := by
        rw [decide_eq_false_iff_not]
        exact fun q => hno ⟨q, hst, hse⟩
      rw [ed, cond_false, fl_eta]
      simp only [bindJ_go, wk]
      refine ⟨F1, o1, nd1, rfl, f1, n1, by omega, by omega, hst, ?_, fun _ => ⟨hse, hve⟩⟩
      simp only [Bool.false_eq_true, if_false]
      cases c with
      | none => exact .inl rfl
      | some f =>
        have es := f1.stg
        simp only [sts] at es
        rw [decide_eq_false_iff_not, es, stg_len] at ed
        rw [es, stg_len] at hdn
        exact .inr (.inr (by omega))
theorem back_rounds {B : Int} {c : Option (Nat → Nat)} {back : Bool} {F : S_api_Fleet} {o : Nat → S_api_Order} {nd : Nat → S_api_Node} (h : RI B c back 0 F o nd) (m : Nat) (hm : 20 ≤ m) :
    ∃ F' o' nd', iter (law42_TopoGoingBackRestores_L2 m back) m (0, T4 F (nodes4 nd)) = some (.go (T4 F' (nodes4 nd'))) ∧ RI B c back 10 F' o' nd' := by
  have key := iter_inv (step := law42_TopoGoingBackRestores_L2 m back) (fun s => ∃ (k : Nat) (F : S_api_Fleet) (o : Nat → S_api_Order) (nd : Nat → S_api_Node), s = ((k : Int), T4 F (nodes4 nd)) ∧ k ≤ 10 ∧ RI B c back k F o nd) (fun s => 10 - s.1.toNat) (fun r => ∃ F' o' nd', r = .go (T4 F' (nodes4 nd')) ∧ RI B c back 10 F' o' nd') (by
    rintro s ⟨k, F, o, nd, rfl, hk, hr⟩
    by_cases hlt : k < 10
    · left
      obtain ⟨F', o', nd', e1, e2⟩ := back_round hlt hr m (by omega)
      exact ⟨_, e1, ⟨k + 1, F', o', nd', rfl, by omega, e2⟩, by simp only; omega⟩
    · right
      have : k = 10 := by omega
      subst this
      rw [back_L2]
      exact ⟨_, rfl, F, o, nd, rfl, hr⟩) m (0, T4 F (nodes4 nd)) ⟨0, F, o, nd, rfl, by omega, h⟩ (by simp; omega)
  obtain ⟨r, hr, F', o', nd', rfl, h2⟩ := key
  exact ⟨F', o', nd', hr, h2⟩
abbrev Ty6 := Int × Int × Int × Bool × (List (List Int)) × (List S_api_Order) × Int × Int × Int × Int × Int × Int × Int × Int × Int × Int × Int × Int × (List S_api_Node) × (List S_api_Node) × Bool
def T6 (w : S_law42_World) : Ty6 := (w.F.Base, w.F.Done, w.F.Serial, w.F.Stopped, w.F.Stages, w.F.Orders, w.Nodes.a0_.Site, w.Nodes.a0_.Version, w.Nodes.a0_.Serial, w.Nodes.a1_.Site, w.Nodes.a1_.Version, w.Nodes.a1_.Serial, w.Nodes.a2_.Site, w.Nodes.a2_.Version, w.Nodes.a2_.Serial, w.Nodes.a3_.Site, w.Nodes.a3_.Version, w.Nodes.a3_.Serial, w.Sent, w.Told, w.Bad)
theorem back_L1 (m : Nat) (l : List S_law42_Act) (i : Int) (w : S_law42_World) : law42_TopoGoingBackRestores_L1 m l (i, T6 w) =
    cond (decide (i < (l.length : Int))) (idx l i fun x => obind (law42_act m w x) fun r => some (.go (IntKind.i64.wrap (i + 1), T6 r))) (some (.stop (.go (T6 w)))) := rfl
theorem back_acts {v : Int} (v0 : 0 ≤ v) (v1 : v < 70000) {l : List S_law42_Act} (hl : ∀ a ∈ l, S_law42_Act.wf a) (h100 : l.length ≤ 100) (m : Nat) (hm : 200 ≤ m) :
    ∃ w c o nd, iter (law42_TopoGoingBackRestores_L1 m l) m (0, T6 (w0 v)) = some (.go (T6 w)) ∧ WI w c o nd l.length := by
  obtain ⟨_, e2⟩ := world_eq v0 v1 m (by omega)
  have key := iter_inv (step := law42_TopoGoingBackRestores_L1 m l) (fun s => ∃ (i : Nat) (w : S_law42_World) (c : Option (Nat → Nat)) (o : Nat → S_api_Order) (nd : Nat → S_api_Node), s = ((i : Int), T6 w) ∧ i ≤ l.length ∧ WI w c o nd i) (fun s => l.length - s.1.toNat) (fun r => ∃ w c o nd, r = .go (T6 w) ∧ WI w c o nd l.length) (by
    rintro s ⟨i, w, c, o, nd, rfl, hi, hw⟩
    rw [back_L1]
    by_cases hlt : i < l.length
    · left
      have e : decide ((i : Int) < (l.length : Int)) = true := by rw [decide_eq_true_iff]; omega
      obtain ⟨a0, a1, a2⟩ := wf_u8 (hl _ (List.getElem_mem hlt))
      rw [e, cond_true, idx_get' hlt]
      obtain ⟨w', c', o', nd', f1, f2⟩ := act_wi hw (by omega) a0 a1 a2 m (by omega)
      rw [f1]
      simp only [obind, Option.bind_some]
      rw [w64 (by omega) (by omega)]
      exact ⟨_, rfl, ⟨i + 1, w', c', o', nd', by simp, by omega, f2⟩, by simp only; omega⟩
    · right
      have e : decide ((i : Int) < (l.length : Int)) = false := by rw [decide_eq_false_iff_not]; omega
      have : i = l.length := by omega
      subst this
      rw [e, cond_false]
      exact ⟨_, rfl, w, c, o, nd, rfl, hw⟩) m (0, T6 (w0 v)) ⟨0, _, _, _, _, rfl, Nat.zero_le _, e2⟩ (by simp; omega)
  obtain ⟨r, hr, w, c, o, nd, rfl, h2⟩ := key
  exact ⟨w, c, o, nd, hr, h2⟩
theorem back_L4 (want : Int) (q : S_4_api_Node) (i : Int) : law42_TopoGoingBackRestores_L4 want q.a0_.Site q.a0_.Version q.a0_.Serial q.a1_.Site q.a1_.Version q.a1_.Serial q.a2_.Site q.a2_.Version q.a2_.Serial q.a3_.Site q.a3_.Version q.a3_.Serial i =
    cond (decide (i < 4)) (need (0 ≤ i ∧ i < 4) (obind (some (S_4_api_Node.get q i)) fun x => cond (decide (x.Version ≠ want)) (some (.stop (.stop false))) (some (.go (IntKind.i64.wrap (i + 1)))))) (some (.stop (.go ()))) := rfl
theorem back_vers {nd : Nat → S_api_Node} {want : Int} (h : ∀ i, i < 4 → (nd i).Version = want) (m : Nat) (hm : 10 ≤ m) :
    iter (law42_TopoGoingBackRestores_L4 want (nodes4 nd).a0_.Site (nodes4 nd).a0_.Version (nodes4 nd).a0_.Serial (nodes4 nd).a1_.Site (nodes4 nd).a1_.Version (nodes4 nd).a1_.Serial (nodes4 nd).a2_.Site (nodes4 nd).a2_.Version (nodes4 nd).a2_.Serial (nodes4 nd).a3_.Site (nodes4 nd).a3_.Version (nodes4 nd).a3_.Serial) m 0 = some (.go ()) := by
  have st : ∀ i : Nat, i < 4 → law42_TopoGoingBackRestores_L4 want (nodes4 nd).a0_.Site (nodes4 nd).a0_.Version (nodes4 nd).a0_.Serial (nodes4 nd).a1_.Site (nodes4 nd).a1_.Version (nodes4 nd).a1_.Serial (nodes4 nd).a2_.Site (nodes4 nd).a2_.Version (nodes4 nd).a2_.Serial (nodes4 nd).a3_.Site (nodes4 nd).a3_.Version (nodes4 nd).a3_.Serial (i : Int) = some (.go ((i + 1 : Nat) : Int)) := fun i hi => by
    rw [back_L4]
    have e : decide ((i : Int) < 4) = true := by rw [decide_eq_true_iff]; omega
    have e2 : decide ((nd i).Version ≠ want) = false := by rw [decide_eq_false_iff_not]; exact fun q => q (h i hi)
    rw [e, cond_true, need_pos (by omega), get4 hi]
    simp only [obind, Option.bind_some, e2, cond_false]
    rw [w64 (by omega) (by omega)]; simp
  exact run4 (st 0 (by decide)) (st 1 (by decide)) (st 2 (by decide)) (st 3 (by decide)) (by rw [back_L4]; rfl) m hm
theorem back_true (v : Int) (l : List S_law42_Act) (back : Bool) (hv : wfI .u16 v) (hl : ∀ a ∈ l, S_law42_Act.wf a) (_ : True) : ∃ m, law42_TopoGoingBackRestores m v l back = some true := by
  refine ⟨1000 + 60, ?_⟩
  have hs := sane 1000
  unfold law42_TopoGoingBackRestores
  generalize hm : 1000 + 60 = m at *
  rw [hs]
  simp only [obind, Option.bind_some]
  by_cases h100 : l.length ≤ 100
  · have e : decide (100 < (l.length : Int)) = false := by rw [decide_eq_false_iff_not]; omega
    rw [e, cond_false]
    obtain ⟨v0, v1⟩ := wf_u16 hv
    rw [w64 (by omega) (by omega)]
    obtain ⟨e1, _⟩ := world_eq v0 v1 m (by omega)
    rw [e1]
    simp only [Option.bind_some]
    obtain ⟨w, c, o, nd, hr, hw⟩ := back_acts v0 v1 hl h100 m (by omega)
    simp only [T6] at hr
    rw [hr]
    simp only [bindJ_go, hw.bad, cond_false, fl_eta]
    have hbb := hw.bb; have hss := hw.ss; have hb0 := hw.fi.b0; have hb1 := hw.fi.b1
    obtain ⟨e2, f2⟩ := stop_eq hw.fi false m (by omega)
    rw [e2]
    simp only [Option.bind_some, ne_eq, not_true_eq_false, decide_false, cond_false]
    rw [w64 (x := w.F.Base + 1) (by omega) (by omega)]
    have hc : c = none ∧ w.F.Stages = [] ∨ ∃ f, c = some f ∧ w.F.Stages = stg (f 0) (f 1) (f 2) (f 3) := by
      have es := hw.fi.stg
      cases c with
      | none => exact .inl ⟨rfl, es⟩
      | some f => exact .inr ⟨f, rfl, es⟩
    obtain ⟨want, hwant, hwv⟩ : ∃ want, (bindJ (S := Int) (R := Bool) (cond (!back && decide (0 < (w.F.Stages.length : Int))) (some (Lp.go (w.F.Base + 1))) (some (Lp.go w.F.Base)))) = (fun k => k want) ∧ want = w.F.Base + (if back = false ∧ c ≠ none then 1 else 0) := by
      rcases hc with ⟨rfl, es⟩ | ⟨f, rfl, es⟩
      · exact ⟨w.F.Base, by funext k; rw [es]; cases back <;> rfl, by simp⟩
      · cases back with
        | true => exact ⟨w.F.Base, by funext k; rfl, by simp⟩
        | false => exact ⟨w.F.Base + 1, by funext k; rw [es, stg_len]; rfl, by simp⟩
    rw [hwant]
    have hR : RI w.F.Base c back 0 { w.F with Stopped := false } o nd := ⟨f2, hw.node, rfl, by simp only; omega, rfl, by
      have hn0 := f2.n0; have hn1 := f2.n1
      cases back with
      | true =>
        (try simp only [if_true])
        rcases hc with ⟨rfl, es⟩ | ⟨f, rfl, es⟩
        · simp only [es] at hn1; simp at hn1; (try simp only at hn0); (try simp only); omega
        · simp only [es, stg_len] at hn1; (try simp only); omega
      | false => (try simp only [Bool.false_eq_true, if_false]); exact .inr (.inl hn0), fun h => by omega⟩
    obtain ⟨F', o', nd', hr2, hR2⟩ := back_rounds hR m (by omega)
    have hnodes := hw.nodes
    rw [hnodes]
    simp only [T4] at hr2
    rw [hr2]
    simp only [bindJ_go]
    obtain ⟨hse, hve⟩ := hR2.last (by omega)
    have hbase := hR2.base
    have hprog := hR2.prog
    have hn0 := hR2.fi.n0; have hn1 := hR2.fi.n1
    have hdone : (back = true ∧ F'.Done = 0) ∨ (back = false ∧ (c = none ∨ F'.Done = 3)) := by
      cases back with
      | true => simp only [if_true] at hprog; left; exact ⟨rfl, by omega⟩
      | false =>
        simp only [Bool.false_eq_true, if_false] at hprog
        right
        refine ⟨rfl, ?_⟩
        rcases hprog with q | q | q
        · exact .inl q
        · right
          have es := hR2.fi.stg
          cases c with
          | none => simp only [sts] at es; rw [es] at hn1; simp at hn1; omega
          | some f => simp only [sts] at es; rw [es, stg_len] at hn1; omega
        · exact .inr q
    have hver : ∀ i, i < 4 → (nd' i).Version = want := fun i hi => by
      have k := hR2.fi.each i hi
      rw [hve i hi, k.ver, hwv, hbase]
      congr 1
      rcases hdone with ⟨rfl, hd⟩ | ⟨rfl, hc0 | hd⟩
      · rw [hd]
        cases c with
        | none => simp [up]
        | some f => simp [up]
      · subst hc0; simp [up]
      · rw [hd]
        cases c with
        | none => simp [up]
        | some f =>
          have := hR2.fi.dig f rfl i
          simp [up]; omega
    rw [back_vers hver m (by omega)]
    simp only [bindJ_go, fl_eta]
    have es := hR2.fi.stg
    cases c with
    | none =>
      simp only [sts] at es
      rw [es]; rfl
    | some f =>
      simp only [sts] at es
      have e0 : decide ((F'.Stages.length : Int) = 0) = false := by rw [es, stg_len]; rfl
      rw [e0, cond_false]
      have hd : F'.Done = 0 ∨ F'.Done = 3 := by
        rcases hdone with ⟨_, q⟩ | ⟨_, q | q⟩
        · exact .inl q
        · cases q
        · exact .inr q
      rcases end_eq hR2.fi m (by omega) with ⟨g, _, _, _, ee⟩ | ⟨hno, _⟩
      · rw [ee]
        have hfb : (fe F').Base = want := by
          rw [hwv]
          simp only [fe]
          rcases hdone with ⟨rfl, q⟩ | ⟨rfl, q | q⟩
          · rw [q]; simp [hbase]
          · cases q
          · rw [q]; simp [hbase]
        simp only [Option.bind_some, hfb]
        simp [fe]
      · exact absurd ⟨by rw [es, stg_len]; decide, hse, hd⟩ hno
  · have e : decide (100 < (l.length : Int)) = true := by rw [decide_eq_true_iff]; omega
    rw [e, cond_true]
end Go.Proofs.Ytigiikkenamneaa
