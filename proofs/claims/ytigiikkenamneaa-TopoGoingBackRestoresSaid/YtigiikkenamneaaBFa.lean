/-
  Functions of the program, lifted: part 1.
-/
import Derived.Test.YtigiikkenamneaaChecked
import Derived.Test.YtigiikkenamneaaM1
namespace Go.Proofs.Ytigiikkenamneaa
open Go.Abs
set_option linter.unusedVariables false
set_option linter.unusedSimpArgs false
set_option maxRecDepth 20000
set_option maxHeartbeats 4000000

structure S_api_Hub where
  Site : Int
  Parent : Int
  Up : Bool
  deriving DecidableEq, Repr
def S_api_Hub.enc (x : S_api_Hub) : List Value := [.int .i64 x.Site, .int .i64 x.Parent, .bool x.Up]
theorem S_api_Hub.enc_ok (x : S_api_Hub) : (S_api_Hub.enc x).length = 3 ∧ ∀ u ∈ S_api_Hub.enc x, u.oneCell' = true := by
  constructor
  · rfl
  · intro u hu; simp only [S_api_Hub.enc, List.mem_cons, List.not_mem_nil, or_false] at hu; rcases hu with rfl | rfl | rfl <;> rfl
structure S_api_Route where
  Country : (List UInt8)
  Sites : (List Int)
  deriving DecidableEq, Repr
structure S_api_Map where
  Hubs : (List S_api_Hub)
  Routes : (List S_api_Route)
  deriving DecidableEq, Repr
structure S_api_Order where
  Site : Int
  Version : Int
  Serial : Int
  Heard : Int
  deriving DecidableEq, Repr
def S_api_Order.enc (x : S_api_Order) : List Value := [.int .i64 x.Site, .int .i64 x.Version, .int .i64 x.Serial, .int .i64 x.Heard]
theorem S_api_Order.enc_ok (x : S_api_Order) : (S_api_Order.enc x).length = 4 ∧ ∀ u ∈ S_api_Order.enc x, u.oneCell' = true := by
  constructor
  · rfl
  · intro u hu; simp only [S_api_Order.enc, List.mem_cons, List.not_mem_nil, or_false] at hu; rcases hu with rfl | rfl | rfl | rfl <;> rfl
structure S_api_Fleet where
  Base : Int
  Done : Int
  Serial : Int
  Stopped : Bool
  Stages : (List (List Int))
  Orders : (List S_api_Order)
  deriving DecidableEq, Repr
structure S_api_Node where
  Site : Int
  Version : Int
  Serial : Int
  deriving DecidableEq, Repr
def S_api_Node.enc (x : S_api_Node) : List Value := [.int .i64 x.Site, .int .i64 x.Version, .int .i64 x.Serial]
theorem S_api_Node.enc_ok (x : S_api_Node) : (S_api_Node.enc x).length = 3 ∧ ∀ u ∈ S_api_Node.enc x, u.oneCell' = true := by
  constructor
  · rfl
  · intro u hu; simp only [S_api_Node.enc, List.mem_cons, List.not_mem_nil, or_false] at hu; rcases hu with rfl | rfl | rfl <;> rfl
structure S_law42_Act where
  Kind : Int
  N : Int
  deriving DecidableEq, Repr
def S_law42_Act.enc (x : S_law42_Act) : List Value := [.int .u8 x.Kind, .int .u8 x.N]
theorem S_law42_Act.enc_ok (x : S_law42_Act) : (S_law42_Act.enc x).length = 2 ∧ ∀ u ∈ S_law42_Act.enc x, u.oneCell' = true := by
  constructor
  · rfl
  · intro u hu; simp only [S_law42_Act.enc, List.mem_cons, List.not_mem_nil, or_false] at hu; rcases hu with rfl | rfl <;> rfl
structure S_4_api_Node where
  a0_ : S_api_Node
  a1_ : S_api_Node
  a2_ : S_api_Node
  a3_ : S_api_Node
  deriving DecidableEq, Repr
def S_4_api_Node.enc (x : S_4_api_Node) : List Value := [.int .i64 x.a0_.Site, .int .i64 x.a0_.Version, .int .i64 x.a0_.Serial, .int .i64 x.a1_.Site, .int .i64 x.a1_.Version, .int .i64 x.a1_.Serial, .int .i64 x.a2_.Site, .int .i64 x.a2_.Version, .int .i64 x.a2_.Serial, .int .i64 x.a3_.Site, .int .i64 x.a3_.Version, .int .i64 x.a3_.Serial]
theorem S_4_api_Node.enc_ok (x : S_4_api_Node) : (S_4_api_Node.enc x).length = 12 ∧ ∀ u ∈ S_4_api_Node.enc x, u.oneCell' = true := by
  constructor
  · rfl
  · intro u hu; simp only [S_4_api_Node.enc, List.mem_cons, List.not_mem_nil, or_false] at hu; rcases hu with rfl | rfl | rfl | rfl | rfl | rfl | rfl | rfl | rfl | rfl | rfl | rfl <;> rfl
def S_4_api_Node.toL (x : S_4_api_Node) : List S_api_Node := [x.a0_, x.a1_, x.a2_, x.a3_]
def S_4_api_Node.ofL (d : S_4_api_Node) (l : List S_api_Node) : S_4_api_Node := ⟨(l[0]?).getD d.a0_, (l[1]?).getD d.a1_, (l[2]?).getD d.a2_, (l[3]?).getD d.a3_⟩
def S_4_api_Node.get (x : S_4_api_Node) (i : Int) : S_api_Node := (x.toL[i.toNat]?).getD x.a0_
def S_4_api_Node.put (x : S_4_api_Node) (i : Int) (v : S_api_Node) : S_4_api_Node := S_4_api_Node.ofL x (x.toL.set i.toNat v)
theorem S_4_api_Node.toL_len (x : S_4_api_Node) : x.toL.length = 4 := rfl
theorem S_4_api_Node.ofL_toL (d : S_4_api_Node) : ∀ l : List S_api_Node, l.length = 4 → (S_4_api_Node.ofL d l).toL = l
  | [y0, y1, y2, y3], _ => rfl
theorem S_4_api_Node.put_toL (x : S_4_api_Node) (i : Int) (v : S_api_Node) : (S_4_api_Node.put x i v).toL = x.toL.set i.toNat v := S_4_api_Node.ofL_toL _ _ (by simp [S_4_api_Node.toL_len])
theorem S_4_api_Node.get_at {p : S_4_api_Node} {i : Int} {x : S_api_Node} (h : 0 ≤ i ∧ i < 4) (hx : some (S_4_api_Node.get p i) = some x) : p.toL[i.toNat]? = some x := by
  have hl : i.toNat < p.toL.length := by rw [S_4_api_Node.toL_len]; omega
  have e : S_4_api_Node.get p i = p.toL[i.toNat] := by unfold S_4_api_Node.get; rw [List.getElem?_eq_getElem hl]; rfl
  rw [List.getElem?_eq_getElem hl, ← e]; exact hx
theorem S_4_api_Node.put_at {p x : S_4_api_Node} {i : Int} {v : S_api_Node} (hx : some (S_4_api_Node.put p i v) = some x) : x.toL = p.toL.set i.toNat v := by rw [← Option.some.inj hx, S_4_api_Node.put_toL]

structure S_law42_World where
  F : S_api_Fleet
  Nodes : S_4_api_Node
  Sent : (List S_api_Node)
  Told : (List S_api_Node)
  Bad : Bool
  deriving DecidableEq, Repr
def NC_api_Route_82 : NC S_api_Route where
  G := Value
  es := 2
  F := fun x g => [.string (bs x.Country), g]
  S := fun x g => [ro g 1 (x.Sites.map (eInt .i64))]
  free := by
    intro x g h hh
    simp only [List.mem_cons, List.not_mem_nil, or_false] at hh
    rcases hh with rfl <;> first | exact free_ro | exact free_nro
  ok := by
    intro x g w o k hh
    refine ⟨rfl, ?_⟩
    intro u hu
    simp only [List.mem_cons, List.not_mem_nil, or_false] at hu
    rcases hu with rfl | rfl <;> first | rfl | exact ro_one (hh _ (.head _)) | exact nro_one (hh _ (.head _))

def NC_L_int_35 : NC (List Int) where
  G := Value
  es := 1
  F := fun x g => [g]
  S := fun x g => [ro g 1 (x.map (eInt .i64))]
  free := by
    intro x g h hh
    simp only [List.mem_cons, List.not_mem_nil, or_false] at hh
    rcases hh with rfl <;> first | exact free_ro | exact free_nro
  ok := by
    intro x g w o k hh
    refine ⟨rfl, ?_⟩
    intro u hu
    simp only [List.mem_cons, List.not_mem_nil, or_false] at hu
    rcases hu with rfl <;> first | rfl | exact ro_one (hh _ (.head _)) | exact nro_one (hh _ (.head _))
  nn := true

def topo_places_L1 (m_0 : S_api_Map) : (Int × (List (Int × Int))) → Option (Lp (Int × (List (Int × Int))) (Lp ((List (Int × Int))) ((List (Int × Int))))) :=
 fun (s_8, x_9) =>
  cond (decide (s_8 < (m_0.Hubs.length : Int)))
   (idx m_0.Hubs s_8 fun x15 =>
   some (.go ((IntKind.i64.wrap (s_8 + 1)), (mput x_9 x15.Site s_8))))
   (some (.stop (.go x_9)))
def topo_places (n : Nat) (m_0 : S_api_Map) : Option ((List (Int × Int))) :=
 bindJ (S := (List (Int × Int)))
  (iter (topo_places_L1 m_0) n (0, (mput ([] : (List (Int × Int))) ((-1) : Int) ((-1) : Int))))
 (fun x_3 =>
  some x_3)
theorem topo_places_ok (n : Nat) (m_0 : S_api_Map) (m_0_Hubsv : Value) (m_0_Routesv : Value) {r : (List (Int × Int))} (h : topo_places n m_0 = some r) :
  Meets Try.prog 34 [.agg #[m_0_Hubsv, m_0_Routesv]] [ro m_0_Hubsv 3 (m_0.Hubs.map S_api_Hub.enc), nro m_0_Routesv NC_api_Route_82 m_0.Routes] (fun v G => ∃ v0, v = .map (some v0) ∧ G = [mapis v0 (mcells (fun n : Int => Value.int .i64 n) (fun n : Int => Value.int .i64 n) r)]) := by
 refine fn_of_run Try.func34 rfl Try.ntmps34 rfl (fun w0 o0 => ?_)
 refine run_seq ?_
 refine run_region' ?_
 refine ot rfl rfl (t_box rfl) ?_
 rintro _ _ ⟨b1, rfl, rfl⟩
 refine oy rfl rfl (y_assign rfl) ?_
 refine ops_nil ?_
 refine goes_code ?_
 refine run_seq ?_
 refine run_region' ?_
 refine ot rfl rfl (t_makeMap) ?_
 rintro _ _ ⟨b2, rfl, rfl⟩
 refine ops_turn (retell 3 (g := mapis b2 (mcells (fun n : Int => Value.int .i64 n) (fun n : Int => Value.int .i64 n) ([] : (List (Int × Int))))) rfl rfl) ?_
 refine ot rfl rfl (t_mapUpdate (k := ((-1) : Int)) (v := ((-1) : Int)) 3 (key_int .i64) Try.runUnderlying85 Try.runUnderlying3 rfl rfl rfl rfl true) ?_
 rintro _ _ ⟨rfl, rfl⟩
 refine oy rfl rfl (y_move rfl) ?_
 refine oy rfl rfl (y_assign rfl) ?_
 refine ops_nil ?_
 refine goes_code ?_
 obtain ⟨o4, h, ho5⟩ := bindJ_some h
 refine run_cut (((List (Int × Int))) × (Unit)) (fun σ => [(3, .map (some b2))]) (fun σ => [mapis b2 (mcells (fun n : Int => Value.int .i64 n) (fun n : Int => Value.int .i64 n) σ.1)]) (fun σ => o4 = .go σ.1) (fun L7 hL6 => ?_) ?_
 ·
  refine run_seq ?_
  refine run_region' ?_
  refine oy rfl rfl (y_fieldAddr_box (sz := 0) Try.runUnderlying25 rfl Try.sizeOf22 rfl) ?_
  refine oy rfl rfl (y_load_box 2 Try.isAgg22 rfl rfl rfl) ?_
  refine oy rfl rfl ((y_len 0 rfl Try.runUnderlying22 rfl rfl reads_ro).to (v_len S_api_Hub.enc _)) ?_
  refine oy rfl rfl (y_move rfl) ?_
  refine ops_nil ?_
  refine goes_code ?_
  refine run_block ?_
  refine run_iter (step := topo_places_L1 m_0) (n := n) (s0 := (0, (mput ([] : (List (Int × Int))) ((-1) : Int) ((-1) : Int)))) h (G := Unit) () (fun σ γ => [(3, .map (some b2)), (9, m_0_Hubsv), (10, .int .i64 (m_0.Hubs.length : Int)), (11, .int .i64 σ.1)]) (fun σ γ => [mapis b2 (mcells (fun n : Int => Value.int .i64 n) (fun n : Int => Value.int .i64 n) σ.2), ro m_0_Hubsv 3 (m_0.Hubs.map S_api_Hub.enc)]) [3, 0] (qv4 rfl rfl rfl rfl) (by decide) rfl ?_
  rintro ⟨s_8, x_9⟩ _ o10 h L13 hgo11 hstop12
  change Run _ _ _ (VF.of [(3, .map (some b2)), (9, m_0_Hubsv), (10, .int .i64 (m_0.Hubs.length : Int)), (11, .int .i64 s_8)]) [mapis b2 (mcells (fun n : Int => Value.int .i64 n) (fun n : Int => Value.int .i64 n) x_9), ro m_0_Hubsv 3 (m_0.Hubs.map S_api_Hub.enc)]
  refine run_seq ?_
  refine run_region' ?_
  refine oy rfl rfl (y_lss rfl rfl) ?_
  refine ops_nil ?_
  refine goes_code ?_
  refine run_seq ?_
  refine run_cond (decide (s_8 < (m_0.Hubs.length : Int))) rfl (fun hc14 => ?_) (fun hc14 => ?_)
  ·replace h := cond_t h hc14
   refine run_skip ?_
   refine goes_code ?_
   refine run_seq ?_
   refine run_block ?_
   refine run_seq ?_
   refine run_region' ?_
   refine oy rfl rfl (y_move rfl) ?_
   obtain ⟨x15, hzx15, hlx15, hxx15, h⟩ := idx_some h
   refine oy rfl rfl (y_indexAddrI (kd := .i64) (i := s_8) 1 Try.runUnderlying22 Try.sizeOf52 rfl rfl rfl reads_ro hzx15 (map_lt hlx15)) ?_
   refine oy rfl rfl (y_load_agg (i := s_8.toNat) (c := [.int .i64 x15.Site, .int .i64 x15.Parent, .bool x15.Up]) 1 Try.isAgg52 Try.sizeOf52 rfl rfl reads_ro (map_get hxx15)) ?_
   refine ot rfl rfl (t_alloc Try.zeroValue52) ?_
   rintro _ _ ⟨b16, rfl, rfl⟩
   refine oy rfl rfl (y_assign rfl) ?_
   refine ot rfl rfl (t_store 2 Try.sizeOf52 rfl rfl rfl rfl (by simp [Value.cells, boxP]) (by simp [Value.cells, Value.oneCell', boxP])) ?_
   rintro _ _ ⟨rfl, rfl⟩
   refine ops_turn (retell 2 (g := box b16 [.int .i64 x15.Site, .int .i64 x15.Parent, .bool x15.Up]) rfl rfl) ?_
   refine ops_nil ?_
   refine goes_code ?_
   refine run_region' ?_
   refine oy rfl rfl (y_move rfl) ?_
   refine oy rfl rfl (y_fieldAddr_box (sz := 0) Try.runUnderlying52 rfl Try.sizeOf3 rfl) ?_
   refine oy rfl rfl (y_load_box 2 Try.isAgg3 rfl rfl rfl) ?_
   refine oy rfl rfl (y_move rfl) ?_
   refine ot rfl rfl (t_mapUpdate (k := x15.Site) (v := s_8) 0 (key_int .i64) Try.runUnderlying85 Try.runUnderlying3 rfl rfl rfl rfl false) ?_
   rintro _ _ ⟨rfl, rfl⟩
   refine ops_nil ?_
   refine goes_blk ?_
   refine goes_code ?_
   refine run_weak [(3, .map (some b2)), (9, m_0_Hubsv), (10, .int .i64 (m_0.Hubs.length : Int)), (11, .int .i64 s_8)] [0, 1] [mapis b2 (mcells (fun n : Int => Value.int .i64 n) (fun n : Int => Value.int .i64 n) (mput x_9 x15.Site s_8)), ro m_0_Hubsv 3 (m_0.Hubs.map S_api_Hub.enc)] (qv4 rfl rfl rfl rfl) (by decide) rfl ?_
   refine run_region' ?_
   refine oy rfl rfl (y_add rfl rfl) ?_
   refine oy rfl rfl (y_move rfl) ?_
   refine ops_nil ?_
   obtain rfl := some_eq h
   exact goes_iter hgo11 ((IntKind.i64.wrap (s_8 + 1)), (mput x_9 x15.Site s_8)) () [0, 1] rfl (qv4 rfl rfl rfl rfl) (by decide) rfl
  ·replace h := cond_f h hc14
   refine run_exit _ rfl ?_
   obtain rfl := some_eq h
   obtain rfl := hstop12 _ rfl
   exact goes_cut hL6 (x_9, ()) [0] (qv1 rfl) (by decide) rfl rfl
 rintro ⟨x_3, _⟩ hj
 obtain rfl : o4 = _ := hj
 replace h := after_go ho5
 clear ho5
 change Run _ _ _ (VF.of [(3, .map (some b2))]) [mapis b2 (mcells (fun n : Int => Value.int .i64 n) (fun n : Int => Value.int .i64 n) x_3)]
 refine run_seq ?_
 refine run_region' ?_
 refine oy rfl rfl (y_move rfl) ?_
 refine oy rfl rfl (y_assign rfl) ?_
 refine ops_nil ?_
 refine goes_code ?_
 refine run_ret ?_
 obtain rfl := some_eq h
 refine fin_slots [2] [.map (some b2)] [0] [mapis b2 (mcells (fun n : Int => Value.int .i64 n) (fun n : Int => Value.int .i64 n) x_3)] Try.results34 rfl (by decide) rfl ?_
 exact ⟨_, rfl, rfl⟩

def topo_isSite (n_0 : Int) : Option (Bool) :=
 some (decide (0 ≤ n_0) && decide (n_0 < 64))
theorem topo_isSite_ok (n_0 : Int)  {r : Bool} (h : topo_isSite n_0 = some r) :
  Meets Try.prog 42 [.int .i64 n_0] [] (fun v G => v = .bool r ∧ G = []) := by
 refine fn_of_run Try.func42 rfl Try.ntmps42 rfl (fun w0 o0 => ?_)
 refine run_seq ?_
 refine run_region' ?_
 refine oy rfl rfl (y_assign rfl) ?_
 refine ops_nil ?_
 refine goes_code ?_
 refine run_seq ?_
 refine run_region' ?_
 refine oy rfl rfl (y_move rfl) ?_
 refine oy rfl rfl (y_geq rfl rfl) ?_
 refine oy rfl rfl (y_move rfl) ?_
 refine ops_cut 3 (Bool) (fun σ => [(8, .bool σ)]) (fun σ => []) (fun σ => σ = (decide (0 ≤ n_0) && decide (n_0 < 64))) (fun L1 hL2 => ?_) ?_
 ·refine ops_split 5 (decide (0 ≤ n_0)) rfl (fun hg3 => ?_) (fun hg3 => ?_)
  ·skip
   refine ops_y (wg 2 true 5 rfl rfl rfl rfl) rfl (y_move rfl) ?_
   refine ops_y (wg 2 true 5 rfl rfl rfl rfl) rfl (y_lss rfl rfl) ?_
   refine oy rfl rfl (y_pick (b := true) rfl rfl) ?_
   refine ops_nil ?_
   exact goes_cut hL2 (decide (n_0 < 64)) [] (qv1 rfl) (by decide) rfl (by rw [hg3]; simp)
  ·skip
   refine ops_no 2 true 5 rfl rfl rfl rfl rfl ?_
   refine ops_no 2 true 5 rfl rfl rfl rfl rfl ?_
   refine oy rfl rfl (y_pick (b := false) rfl rfl) ?_
   refine ops_nil ?_
   exact goes_cut hL2 false [] (qv1 rfl) (by decide) rfl (by rw [hg3]; simp)
 rintro _ rfl
 refine oy rfl rfl (y_assign rfl) ?_
 refine ops_nil ?_
 refine goes_code ?_
 refine run_ret ?_
 obtain rfl := some_eq h
 refine fin_slots [2] [.bool (decide (0 ≤ n_0) && decide (n_0 < 64))] [] [] Try.results42 rfl (by decide) rfl ?_
 exact ⟨rfl, rfl⟩

def graph_Depths_L2 (parents_0 : (List Int)) : (Int × Int) → Option (Lp (Int × Int) (Lp (Int) (Lp ((List Int) × Int) (Lp ((List Int)) ((List Int) × Int))))) :=
 fun (k_21, w_22) =>
  cond (decide (w_22 ≠ (-1)))
   (bindJ (S := Bool)
    (cond (decide ((parents_0.length : Int) ≤ (IntKind.i64.wrap (k_21 + 1))))
     (some (.go true))
     (idx parents_0 w_22 fun x34 =>
     some (.go (decide (x34 < (-1))))))
   (fun b28 =>
    bindJ (S := Bool)
     (cond b28
      (some (.go true))
      (idx parents_0 w_22 fun x41 =>
      some (.go (decide ((parents_0.length : Int) ≤ x41)))))
    (fun b35 =>
     cond b35
      (some (.stop (.stop (.stop (.stop (([] : List Int), 3))))))
      (idx parents_0 w_22 fun x43 =>
      some (.go ((IntKind.i64.wrap (k_21 + 1)), x43))))))
   (some (.stop (.go k_21)))
def graph_Depths_L1 (n : Nat) (parents_0 : (List Int)) : ((List Int) × Int) → Option (Lp ((List Int) × Int) (Lp ((List Int)) ((List Int) × Int))) :=
 fun (out_8, s_9) =>
  cond (decide (s_9 < (parents_0.length : Int)))
   (bindJ (S := Int)
    (iter (graph_Depths_L2 parents_0) n ((-1), s_9))
   (fun k_16 =>
    need (out_8.length + ([k_16] : List Int).length ≤ 4294967296) (
    some (.go ((out_8 ++ ([k_16] : List Int)), (IntKind.i64.wrap (s_9 + 1)))))))
   (some (.stop (.go out_8)))
def graph_Depths (n : Nat) (parents_0 : (List Int)) : Option ((List Int) × Int) :=
 cond (decide (256 < (parents_0.length : Int)))
  (some (([] : List Int), 3))
  (bindJ (S := (List Int))
   (iter (graph_Depths_L1 n parents_0) n (([] : List Int), 0))
  (fun out_2 =>
   some (out_2, 0)))
theorem graph_Depths_ok (n : Nat) (parents_0 : (List Int)) (parents_0v : Value) {r : (List Int) × Int} (h : graph_Depths n parents_0 = some r) :
  Meets Try.prog 43 [parents_0v] [ro parents_0v 1 (parents_0.map (eInt .i64))] (fun v G => ∃ v0, v = .tuple #[v0, .int .i64 r.2] ∧ G = [row v0 1 (r.1.map (eInt .i64))]) := by
 refine fn_of_run Try.func43 rfl Try.ntmps43 rfl (fun w0 o0 => ?_)
 refine run_seq ?_
 refine run_region' ?_
 refine oy rfl rfl (y_assign rfl) ?_
 refine oy rfl rfl (y_assign rfl) ?_
 refine ops_nil ?_
 refine goes_code ?_
 refine run_seq ?_
 refine run_seq ?_
 refine run_region' ?_
 refine oy rfl rfl (y_move rfl) ?_
 refine oy rfl rfl ((y_len 0 rfl Try.runUnderlying35 rfl rfl reads_ro).to (v_len (eInt .i64) _)) ?_
 refine oy rfl rfl (y_gtr rfl rfl) ?_
 refine ops_nil ?_
 refine goes_code ?_
 refine run_cond (decide (256 < (parents_0.length : Int))) rfl (fun hc1 => ?_) (fun hc1 => ?_)
 ·replace h := cond_t h hc1
  refine run_seq ?_
  refine run_region' ?_
  refine oy rfl rfl (y_assign rfl) ?_
  refine oy rfl rfl (y_assign rfl) ?_
  refine ops_nil ?_
  refine goes_code ?_
  refine run_ret ?_
  refine fin_turn (nilrow 1) ?_
  refine fin_turn (retell 1 (g := row (.slice none 0 0) 1 (([] : List Int).map (eInt .i64))) rfl rfl) ?_
  obtain rfl := some_eq h
  refine fin_slots [2, 3] [(.slice none 0 0), .int .i64 3] [1] [row (.slice none 0 0) 1 (([] : List Int).map (eInt .i64))] Try.results43 rfl (by decide) rfl ?_
  exact ⟨_, rfl, rfl⟩
 ·replace h := cond_f h hc1
  refine run_skip ?_
  refine goes_code ?_
  refine run_seq ?_
  refine run_region' ?_
  refine oy rfl rfl (y_assign rfl) ?_
  refine ops_nil ?_
  refine goes_code ?_
  obtain ⟨o4, h, ho5⟩ := bindJ_some h
  refine run_cut (((List Int)) × (Value)) (fun σ => [(4, σ.2)]) (fun σ => [row σ.2 1 (σ.1.map (eInt .i64))]) (fun σ => o4 = .go σ.1) (fun L7 hL6 => ?_) ?_
  ·
   refine run_seq ?_
   refine run_region' ?_
   refine oy rfl rfl (y_move rfl) ?_
   refine oy rfl rfl ((y_len 0 rfl Try.runUnderlying35 rfl rfl reads_ro).to (v_len (eInt .i64) _)) ?_
   refine oy rfl rfl (y_move rfl) ?_
   refine ops_nil ?_
   refine goes_code ?_
   refine run_block ?_
   refine run_turn (nilrow 1) ?_
   refine run_turn (retell 1 (g := row (.slice none 0 0) 1 (([] : List Int).map (eInt .i64))) rfl rfl) ?_
   refine run_iter (step := graph_Depths_L1 n parents_0) (n := n) (s0 := (([] : List Int), 0)) h (G := Value) (.slice none 0 0) (fun σ γ => [(0, parents_0v), (4, γ), (12, .int .i64 (parents_0.length : Int)), (13, .int .i64 σ.2)]) (fun σ γ => [ro parents_0v 1 (parents_0.map (eInt .i64)), row γ 1 (σ.1.map (eInt .i64))]) [0, 1] (qv4 rfl rfl rfl rfl) (by decide) rfl ?_
   rintro ⟨out_8, s_9⟩ v10 o11 h L14 hgo12 hstop13
   change Run _ _ _ (VF.of [(0, parents_0v), (4, v10), (12, .int .i64 (parents_0.length : Int)), (13, .int .i64 s_9)]) [ro parents_0v 1 (parents_0.map (eInt .i64)), row v10 1 (out_8.map (eInt .i64))]
   refine run_seq ?_
   refine run_region' ?_
   refine oy rfl rfl (y_lss rfl rfl) ?_
   refine ops_nil ?_
   refine goes_code ?_
   refine run_seq ?_
   refine run_cond (decide (s_9 < (parents_0.length : Int))) rfl (fun hc15 => ?_) (fun hc15 => ?_)
   ·replace h := cond_t h hc15
    refine run_skip ?_
    refine goes_code ?_
    refine run_seq ?_
    refine run_block ?_
    refine run_seq ?_
    refine run_region' ?_
    refine oy rfl rfl (y_move rfl) ?_
    refine oy rfl rfl (y_assign rfl) ?_
    refine ops_nil ?_
    refine goes_code ?_
    refine run_seq ?_
    refine run_region' ?_
    refine oy rfl rfl (y_assign rfl) ?_
    refine ops_nil ?_
    refine goes_code ?_
    obtain ⟨o17, h, ho18⟩ := bindJ_some h
    refine run_cut ((Int) × (Unit)) (fun σ => [(0, parents_0v), (4, v10), (6, .int .i64 σ.1), (12, .int .i64 (parents_0.length : Int)), (13, .int .i64 s_9)]) (fun σ => [ro parents_0v 1 (parents_0.map (eInt .i64)), row v10 1 (out_8.map (eInt .i64))]) (fun σ => o17 = .go σ.1) (fun L20 hL19 => ?_) ?_
    ·
     refine run_seq ?_
     refine run_region' ?_
     refine oy rfl rfl (y_move rfl) ?_
     refine oy rfl rfl (y_assign rfl) ?_
     refine ops_nil ?_
     refine goes_code ?_
     refine run_block ?_
     refine run_iter (step := graph_Depths_L2 parents_0) (n := n) (s0 := ((-1), s_9)) h (G := Unit) () (fun σ γ => [(0, parents_0v), (4, v10), (6, .int .i64 σ.1), (7, .int .i64 σ.2), (12, .int .i64 (parents_0.length : Int)), (13, .int .i64 s_9)]) (fun σ γ => [ro parents_0v 1 (parents_0.map (eInt .i64)), row v10 1 (out_8.map (eInt .i64))]) [0, 1] (qv6 rfl rfl rfl rfl rfl rfl) (by decide) rfl ?_
     rintro ⟨k_21, w_22⟩ _ o23 h L26 hgo24 hstop25
     change Run _ _ _ (VF.of [(0, parents_0v), (4, v10), (6, .int .i64 k_21), (7, .int .i64 w_22), (12, .int .i64 (parents_0.length : Int)), (13, .int .i64 s_9)]) [ro parents_0v 1 (parents_0.map (eInt .i64)), row v10 1 (out_8.map (eInt .i64))]
     refine run_seq ?_
     refine run_seq ?_
     refine run_region' ?_
     refine oy rfl rfl (y_move rfl) ?_
     refine oy rfl rfl (y_neq rfl rfl) ?_
     refine ops_nil ?_
     refine goes_code ?_
     refine run_cond (decide (w_22 ≠ (-1))) rfl (fun hc27 => ?_) (fun hc27 => ?_)
     ·replace h := cond_t h hc27
      refine run_skip ?_
      refine goes_code ?_
      refine run_seq ?_
      refine run_block ?_
      refine run_seq ?_
      refine run_region' ?_
      refine oy rfl rfl (y_move rfl) ?_
      refine oy rfl rfl (y_add rfl rfl) ?_
      refine oy rfl rfl (y_assign rfl) ?_
      refine ops_nil ?_
      refine goes_code ?_
      refine run_seq ?_
      refine run_region' ?_
      refine oy rfl rfl (y_move rfl) ?_
      refine oy rfl rfl (y_move rfl) ?_
      refine oy rfl rfl ((y_len 0 rfl Try.runUnderlying35 rfl rfl reads_ro).to (v_len (eInt .i64) _)) ?_
      refine oy rfl rfl (y_geq rfl rfl) ?_
      refine oy rfl rfl (y_move rfl) ?_
      obtain ⟨o29, h, ho30⟩ := bindJ_some h
      refine ops_cut 6 (Bool) (fun σ => [(0, parents_0v), (4, v10), (6, .int .i64 (IntKind.i64.wrap (k_21 + 1))), (7, .int .i64 w_22), (12, .int .i64 (parents_0.length : Int)), (13, .int .i64 s_9), (35, .bool σ)]) (fun σ => [ro parents_0v 1 (parents_0.map (eInt .i64)), row v10 1 (out_8.map (eInt .i64))]) (fun σ => o29 = .go σ) (fun L31 hL32 => ?_) ?_
      ·refine ops_split 29 (decide ((parents_0.length : Int) ≤ (IntKind.i64.wrap (k_21 + 1)))) rfl (fun hg33 => ?_) (fun hg33 => ?_)
       ·replace h := cond_t h hg33
        refine ops_no 4 false 29 rfl rfl rfl rfl rfl ?_
        refine ops_no 4 false 29 rfl rfl rfl rfl rfl ?_
        refine ops_no 4 false 29 rfl rfl rfl rfl rfl ?_
        refine ops_no 4 false 29 rfl rfl rfl rfl rfl ?_
        refine ops_no 4 false 29 rfl rfl rfl rfl rfl ?_
        refine ops_weak [(0, parents_0v), (4, v10), (6, .int .i64 (IntKind.i64.wrap (k_21 + 1))), (7, .int .i64 w_22), (12, .int .i64 (parents_0.length : Int)), (13, .int .i64 s_9), (29, .bool true), (34, undef)] [0, 1] [ro parents_0v 1 (parents_0.map (eInt .i64)), row v10 1 (out_8.map (eInt .i64))] (qv8 rfl rfl rfl rfl rfl rfl rfl rfl) (by decide) rfl ?_
        refine oy rfl rfl (y_pick (b := true) rfl rfl) ?_
        refine ops_nil ?_
        obtain rfl := some_eq h
        exact goes_cut hL32 true [0, 1] (qv7 rfl rfl rfl rfl rfl rfl rfl) (by decide) rfl rfl
       ·replace h := cond_f h hg33
        refine ops_y (wg 4 false 29 rfl rfl rfl rfl) rfl (y_move rfl) ?_
        refine ops_y (wg 4 false 29 rfl rfl rfl rfl) rfl (y_move rfl) ?_
        obtain ⟨x34, hzx34, hlx34, hxx34, h⟩ := idx_some h
        refine ops_y (wg 4 false 29 rfl rfl rfl rfl) rfl (y_indexAddrI (kd := .i64) (i := w_22) 0 Try.runUnderlying35 Try.sizeOf3 rfl rfl rfl reads_ro hzx34 (map_lt hlx34)) ?_
        refine ops_y (wg 4 false 29 rfl rfl rfl rfl) rfl (y_load_elem (i := w_22.toNat) 0 Try.isAgg3 rfl rfl reads_ro (map_get hxx34)) ?_
        refine ops_y (wg 4 false 29 rfl rfl rfl rfl) rfl (y_lss rfl rfl) ?_
        refine ops_weak [(0, parents_0v), (4, v10), (6, .int .i64 (IntKind.i64.wrap (k_21 + 1))), (7, .int .i64 w_22), (12, .int .i64 (parents_0.length : Int)), (13, .int .i64 s_9), (29, .bool false), (34, .bool (decide (x34 < (-1))))] [0, 1] [ro parents_0v 1 (parents_0.map (eInt .i64)), row v10 1 (out_8.map (eInt .i64))] (qv8 rfl rfl rfl rfl rfl rfl rfl rfl) (by decide) rfl ?_
        refine oy rfl rfl (y_pick (b := false) rfl rfl) ?_
        refine ops_nil ?_
        obtain rfl := some_eq h
        exact goes_cut hL32 (decide (x34 < (-1))) [0, 1] (qv7 rfl rfl rfl rfl rfl rfl rfl) (by decide) rfl rfl
      rintro b28 hj
      obtain rfl : o29 = _ := hj
      replace h := after_go ho30
      clear ho30
      refine oy rfl rfl (y_move rfl) ?_
      obtain ⟨o36, h, ho37⟩ := bindJ_some h
      refine ops_cut 8 (Bool) (fun σ => [(0, parents_0v), (4, v10), (6, .int .i64 (IntKind.i64.wrap (k_21 + 1))), (7, .int .i64 w_22), (12, .int .i64 (parents_0.length : Int)), (13, .int .i64 s_9), (44, .bool σ)]) (fun σ => [ro parents_0v 1 (parents_0.map (eInt .i64)), row v10 1 (out_8.map (eInt .i64))]) (fun σ => o36 = .go σ) (fun L38 hL39 => ?_) ?_
      ·refine ops_split 36 b28 rfl (fun hg40 => ?_) (fun hg40 => ?_)
       ·replace h := cond_t h hg40
        refine ops_no 11 false 36 rfl rfl rfl rfl rfl ?_
        refine ops_no 11 false 36 rfl rfl rfl rfl rfl ?_
        refine ops_no 11 false 36 rfl rfl rfl rfl rfl ?_
        refine ops_no 11 false 36 rfl rfl rfl rfl rfl ?_
        refine ops_no 11 false 36 rfl rfl rfl rfl rfl ?_
        refine ops_no 11 false 36 rfl rfl rfl rfl rfl ?_
        refine ops_no 11 false 36 rfl rfl rfl rfl rfl ?_
        refine oy rfl rfl (y_pick (b := true) rfl rfl) ?_
        refine ops_nil ?_
        obtain rfl := some_eq h
        exact goes_cut hL39 true [0, 1] (qv7 rfl rfl rfl rfl rfl rfl rfl) (by decide) rfl rfl
       ·replace h := cond_f h hg40
        refine ops_y (wg 11 false 36 rfl rfl rfl rfl) rfl (y_move rfl) ?_
        refine ops_y (wg 11 false 36 rfl rfl rfl rfl) rfl (y_move rfl) ?_
        obtain ⟨x41, hzx41, hlx41, hxx41, h⟩ := idx_some h
        refine ops_y (wg 11 false 36 rfl rfl rfl rfl) rfl (y_indexAddrI (kd := .i64) (i := w_22) 0 Try.runUnderlying35 Try.sizeOf3 rfl rfl rfl reads_ro hzx41 (map_lt hlx41)) ?_
        refine ops_y (wg 11 false 36 rfl rfl rfl rfl) rfl (y_load_elem (i := w_22.toNat) 0 Try.isAgg3 rfl rfl reads_ro (map_get hxx41)) ?_
        refine ops_y (wg 11 false 36 rfl rfl rfl rfl) rfl (y_move rfl) ?_
        refine ops_y (wg 11 false 36 rfl rfl rfl rfl) rfl ((y_len 0 rfl Try.runUnderlying35 rfl rfl reads_ro).to (v_len (eInt .i64) _)) ?_
        refine ops_y (wg 11 false 36 rfl rfl rfl rfl) rfl (y_geq rfl rfl) ?_
        refine oy rfl rfl (y_pick (b := false) rfl rfl) ?_
        refine ops_nil ?_
        obtain rfl := some_eq h
        exact goes_cut hL39 (decide ((parents_0.length : Int) ≤ x41)) [0, 1] (qv7 rfl rfl rfl rfl rfl rfl rfl) (by decide) rfl rfl
      rintro b35 hj
      obtain rfl : o36 = _ := hj
      replace h := after_go ho37
      clear ho37
      refine ops_nil ?_
      refine goes_code ?_
      refine run_cond b35 rfl (fun hc42 => ?_) (fun hc42 => ?_)
      ·replace h := cond_t h hc42
       refine run_seq ?_
       refine run_region' ?_
       refine oy rfl rfl (y_assign rfl) ?_
       refine oy rfl rfl (y_assign rfl) ?_
       refine ops_nil ?_
       refine goes_code ?_
       refine run_ret ?_
       refine fin_turn (nilrow 1) ?_
       refine fin_turn (retell 2 (g := row (.slice none 0 0) 1 (([] : List Int).map (eInt .i64))) rfl rfl) ?_
       obtain rfl := some_eq h
       obtain rfl := hstop25 _ rfl
       skip
       obtain rfl := after_stop ho18
       skip
       obtain rfl := hstop13 _ rfl
       skip
       obtain rfl := after_stop ho5
       refine fin_slots [2, 3] [(.slice none 0 0), .int .i64 3] [2] [row (.slice none 0 0) 1 (([] : List Int).map (eInt .i64))] Try.results43 rfl (by decide) rfl ?_
       exact ⟨_, rfl, rfl⟩
      ·replace h := cond_f h hc42
       refine run_skip ?_
       refine goes_blk ?_
       refine goes_code ?_
       refine run_region' ?_
       refine oy rfl rfl (y_move rfl) ?_
       refine oy rfl rfl (y_move rfl) ?_
       obtain ⟨x43, hzx43, hlx43, hxx43, h⟩ := idx_some h
       refine oy rfl rfl (y_indexAddrI (kd := .i64) (i := w_22) 0 Try.runUnderlying35 Try.sizeOf3 rfl rfl rfl reads_ro hzx43 (map_lt hlx43)) ?_
       refine oy rfl rfl (y_load_elem (i := w_22.toNat) 0 Try.isAgg3 rfl rfl reads_ro (map_get hxx43)) ?_
       refine oy rfl rfl (y_assign rfl) ?_
       refine ops_nil ?_
       obtain rfl := some_eq h
       exact goes_iter hgo24 ((IntKind.i64.wrap (k_21 + 1)), x43) () [0, 1] rfl (qv6 rfl rfl rfl rfl rfl rfl) (by decide) rfl
     ·replace h := cond_f h hc27
      refine run_exit _ rfl ?_
      obtain rfl := some_eq h
      obtain rfl := hstop25 _ rfl
      exact goes_cut hL19 (k_21, ()) [0, 1] (qv5 rfl rfl rfl rfl rfl) (by decide) rfl rfl
    rintro ⟨k_16, _⟩ hj
    obtain rfl : o17 = _ := hj
    replace h := after_go ho18
    clear ho18
    change Run _ _ _ (VF.of [(0, parents_0v), (4, v10), (6, .int .i64 k_16), (12, .int .i64 (parents_0.length : Int)), (13, .int .i64 s_9)]) [ro parents_0v 1 (parents_0.map (eInt .i64)), row v10 1 (out_8.map (eInt .i64))]
    refine run_region' ?_
    refine oy rfl rfl (y_move rfl) ?_
    refine oy rfl rfl (y_move rfl) ?_
    refine ot rfl rfl (t_lit [.int .i64 k_16] Try.runUnderlying35 Try.sizeOf3 Try.zeroValue3 rfl (by decide) (by decide) rfl (by simp [Value.cells, boxP])) ?_
    rintro v44 _ ⟨rfl, _⟩
    refine ops_turn (retell 2 (g := row v44 1 (([k_16] : List Int).map (eInt .i64))) rfl rfl) ?_
    obtain ⟨hr46, h⟩ := need_some h
    refine ot rfl rfl (t_append (es := 1) 1 rfl Try.runUnderlying35 rfl Try.runUnderlying35 (.inr ⟨_, rfl⟩) Try.typeInfo3 rfl (by decide) Try.zeroValue3 rfl rfl rfl rfl (src_reads 2 rfl reads_row (map_ok (eInt_ok _) _)) (map_room hr46 (by decide)) (map_fit hr46)) ?_
    rintro v45 _ rfl
    refine ops_turn (retell 1 (g := row v45 1 ((out_8 ++ ([k_16] : List Int)).map (eInt .i64))) rfl (congrArg (row _ _) List.map_append.symm)) ?_
    refine oy rfl rfl (y_assign rfl) ?_
    refine ops_nil ?_
    refine goes_blk ?_
    refine goes_code ?_
    refine run_region' ?_
    refine oy rfl rfl (y_add rfl rfl) ?_
    refine oy rfl rfl (y_move rfl) ?_
    refine ops_nil ?_
    obtain rfl := some_eq h
    exact goes_iter hgo12 ((out_8 ++ ([k_16] : List Int)), (IntKind.i64.wrap (s_9 + 1))) v45 [0, 1] rfl (qv4 rfl rfl rfl rfl) (by decide) rfl
   ·replace h := cond_f h hc15
    refine run_exit _ rfl ?_
    obtain rfl := some_eq h
    obtain rfl := hstop13 _ rfl
    exact goes_cut hL6 (out_8, v10) [1] (qv1 rfl) (by decide) rfl rfl
  rintro ⟨out_2, v3⟩ hj
  obtain rfl : o4 = _ := hj
  replace h := after_go ho5
  clear ho5
  change Run _ _ _ (VF.of [(4, v3)]) [row v3 1 (out_2.map (eInt .i64))]
  refine run_seq ?_
  refine run_region' ?_
  refine oy rfl rfl (y_move rfl) ?_
  refine oy rfl rfl (y_assign rfl) ?_
  refine oy rfl rfl (y_assign rfl) ?_
  refine ops_nil ?_
  refine goes_code ?_
  refine run_ret ?_
  obtain rfl := some_eq h
  refine fin_slots [2, 3] [v3, .int .i64 0] [0] [row v3 1 (out_2.map (eInt .i64))] Try.results43 rfl (by decide) rfl ?_
  exact ⟨_, rfl, rfl⟩

def topo_isCountry (s_0 : (List UInt8)) : Option (Bool) :=
 bindJ (S := Bool)
  (cond (decide (s_0 = []))
   (some (.go true))
   (bindJ (S := Bool)
    (cond (decide ((s_0.length : Int) = 2))
     (idx s_0 0 fun c13 =>
     idx s_0 1 fun c14 =>
     some (.go (decide (97 ≤ (min (c13.toNat : Int) (c14.toNat : Int))))))
     (some (.go false)))
   (fun b7 =>
    bindJ (S := Bool)
     (cond b7
      (idx s_0 0 fun c21 =>
      idx s_0 1 fun c22 =>
      some (.go (decide ((max (c21.toNat : Int) (c22.toNat : Int)) ≤ 122))))
      (some (.go false)))
    (fun b15 =>
     some (.go b15)))))
 (fun b1 =>
  some b1)
theorem topo_isCountry_ok (s_0 : (List UInt8))  {r : Bool} (h : topo_isCountry s_0 = some r) :
  Meets Try.prog 44 [.string (bs s_0)] [] (fun v G => v = .bool r ∧ G = []) := by
 refine fn_of_run Try.func44 rfl Try.ntmps44 rfl (fun w0 o0 => ?_)
 refine run_seq ?_
 refine run_region' ?_
 refine oy rfl rfl (y_assign rfl) ?_
 refine ops_nil ?_
 refine goes_code ?_
 refine run_seq ?_
 refine run_draw (by kernel_rfl) (by kernel_rfl) ?_
 refine sy rfl rfl (y_move rfl) ?_
 refine sy rfl rfl (y_seql rfl rfl) ?_
 refine sy rfl rfl (y_move rfl) ?_
 obtain ⟨o2, h, ho3⟩ := bindJ_some h
 refine still_cut 20 (Bool) (fun σ => [(25, .bool σ)]) (fun σ => []) (fun σ => o2 = .go σ) (fun L4 hL5 => ?_) ?_
 ·refine still_split 5 (decide (s_0 = [])) rfl (fun hg6 => ?_) (fun hg6 => ?_)
  ·replace h := cond_t h hg6
   refine still_no 2 false 5 rfl rfl rfl rfl rfl ?_
   refine still_no 2 false 5 rfl rfl rfl rfl rfl ?_
   refine still_no 2 false 5 rfl rfl rfl rfl rfl ?_
   refine still_no 2 false 5 rfl rfl rfl rfl rfl ?_
   refine still_un 6 true 9 rfl rfl rfl rfl rfl ?_
   refine still_un 6 true 9 rfl rfl rfl rfl rfl ?_
   refine still_un 6 true 9 rfl rfl rfl rfl rfl ?_
   refine still_un 6 true 9 rfl rfl rfl rfl rfl ?_
   refine still_un 6 true 9 rfl rfl rfl rfl rfl ?_
   refine still_un 6 true 9 rfl rfl rfl rfl rfl ?_
   refine still_no 2 false 5 rfl rfl rfl rfl rfl ?_
   refine still_no 2 false 5 rfl rfl rfl rfl rfl ?_
   refine still_un 14 true 17 rfl rfl rfl rfl rfl ?_
   refine still_un 14 true 17 rfl rfl rfl rfl rfl ?_
   refine still_un 14 true 17 rfl rfl rfl rfl rfl ?_
   refine still_un 14 true 17 rfl rfl rfl rfl rfl ?_
   refine still_un 14 true 17 rfl rfl rfl rfl rfl ?_
   refine still_un 14 true 17 rfl rfl rfl rfl rfl ?_
   refine still_no 2 false 5 rfl rfl rfl rfl rfl ?_
   refine sy rfl rfl (y_pick (b := true) rfl rfl) ?_
   refine still_nil ?_
   obtain rfl := some_eq h
   exact goes_cut hL5 true [] (qv1 rfl) (by decide) rfl rfl
  ·replace h := cond_f h hg6
   refine still_y (wg 2 false 5 rfl rfl rfl rfl) rfl (y_move rfl) ?_
   refine still_y (wg 2 false 5 rfl rfl rfl rfl) rfl (y_len_str rfl Try.runUnderlying9 rfl) ?_
   refine still_y (wg 2 false 5 rfl rfl rfl rfl) rfl (y_eql rfl rfl) ?_
   refine still_y (wg 2 false 5 rfl rfl rfl rfl) rfl (y_move rfl) ?_
   obtain ⟨o8, h, ho9⟩ := bindJ_some h
   refine still_cut 7 (Bool) (fun σ => [(0, .string (bs s_0)), (5, .bool false), (16, .bool σ)]) (fun σ => []) (fun σ => o8 = .go σ) (fun L10 hL11 => ?_) ?_
   ·refine still_split 9 (decide ((s_0.length : Int) = 2)) rfl (fun hg12 => ?_) (fun hg12 => ?_)
    ·replace h := cond_t h hg12
     refine still_y (wg 6 true 9 rfl rfl rfl rfl) rfl (y_move rfl) ?_
     obtain ⟨c13, hzc13, hlc13, hxc13, h⟩ := idx_some h
     refine still_y (wg 6 true 9 rfl rfl rfl rfl) rfl (y_index_strI (kd := .i64) (i := 0) Try.runUnderlying9 rfl rfl hzc13 hxc13) ?_
     refine still_y (wg 6 true 9 rfl rfl rfl rfl) rfl (y_move rfl) ?_
     obtain ⟨c14, hzc14, hlc14, hxc14, h⟩ := idx_some h
     refine still_y (wg 6 true 9 rfl rfl rfl rfl) rfl (y_index_strI (kd := .i64) (i := 1) Try.runUnderlying9 rfl rfl hzc14 hxc14) ?_
     refine still_y (wg 6 true 9 rfl rfl rfl rfl) rfl (y_min rfl rfl) ?_
     refine still_y (wg 6 true 9 rfl rfl rfl rfl) rfl (y_geq rfl rfl) ?_
     refine still_y (wg 2 false 5 rfl rfl rfl rfl) rfl (y_pick (b := true) rfl rfl) ?_
     refine still_nil ?_
     obtain rfl := some_eq h
     exact goes_cut hL11 (decide (97 ≤ (min (c13.toNat : Int) (c14.toNat : Int)))) [] (qv3 rfl rfl rfl) (by decide) rfl rfl
    ·replace h := cond_f h hg12
     refine still_no 6 true 9 rfl rfl rfl rfl rfl ?_
     refine still_no 6 true 9 rfl rfl rfl rfl rfl ?_
     refine still_no 6 true 9 rfl rfl rfl rfl rfl ?_
     refine still_no 6 true 9 rfl rfl rfl rfl rfl ?_
     refine still_no 6 true 9 rfl rfl rfl rfl rfl ?_
     refine still_no 6 true 9 rfl rfl rfl rfl rfl ?_
     refine still_y (wg 2 false 5 rfl rfl rfl rfl) rfl (y_pick (b := false) rfl rfl) ?_
     refine still_nil ?_
     obtain rfl := some_eq h
     exact goes_cut hL11 false [] (qv3 rfl rfl rfl) (by decide) rfl rfl
   rintro b7 hj
   obtain rfl : o8 = _ := hj
   replace h := after_go ho9
   clear ho9
   refine still_y (wg 2 false 5 rfl rfl rfl rfl) rfl (y_move rfl) ?_
   obtain ⟨o16, h, ho17⟩ := bindJ_some h
   refine still_cut 7 (Bool) (fun σ => [(5, .bool false), (24, .bool σ)]) (fun σ => []) (fun σ => o16 = .go σ) (fun L18 hL19 => ?_) ?_
   ·refine still_split 17 b7 rfl (fun hg20 => ?_) (fun hg20 => ?_)
    ·replace h := cond_t h hg20
     refine still_y (wg 14 true 17 rfl rfl rfl rfl) rfl (y_move rfl) ?_
     obtain ⟨c21, hzc21, hlc21, hxc21, h⟩ := idx_some h
     refine still_y (wg 14 true 17 rfl rfl rfl rfl) rfl (y_index_strI (kd := .i64) (i := 0) Try.runUnderlying9 rfl rfl hzc21 hxc21) ?_
     refine still_y (wg 14 true 17 rfl rfl rfl rfl) rfl (y_move rfl) ?_
     obtain ⟨c22, hzc22, hlc22, hxc22, h⟩ := idx_some h
     refine still_y (wg 14 true 17 rfl rfl rfl rfl) rfl (y_index_strI (kd := .i64) (i := 1) Try.runUnderlying9 rfl rfl hzc22 hxc22) ?_
     refine still_y (wg 14 true 17 rfl rfl rfl rfl) rfl (y_max rfl rfl) ?_
     refine still_y (wg 14 true 17 rfl rfl rfl rfl) rfl (y_leq rfl rfl) ?_
     refine still_y (wg 2 false 5 rfl rfl rfl rfl) rfl (y_pick (b := true) rfl rfl) ?_
     refine still_nil ?_
     obtain rfl := some_eq h
     exact goes_cut hL19 (decide ((max (c21.toNat : Int) (c22.toNat : Int)) ≤ 122)) [] (qv2 rfl rfl) (by decide) rfl rfl
    ·replace h := cond_f h hg20
     refine still_no 14 true 17 rfl rfl rfl rfl rfl ?_
     refine still_no 14 true 17 rfl rfl rfl rfl rfl ?_
     refine still_no 14 true 17 rfl rfl rfl rfl rfl ?_
     refine still_no 14 true 17 rfl rfl rfl rfl rfl ?_
     refine still_no 14 true 17 rfl rfl rfl rfl rfl ?_
     refine still_no 14 true 17 rfl rfl rfl rfl rfl ?_
     refine still_y (wg 2 false 5 rfl rfl rfl rfl) rfl (y_pick (b := false) rfl rfl) ?_
     refine still_nil ?_
     obtain rfl := some_eq h
     exact goes_cut hL19 false [] (qv2 rfl rfl) (by decide) rfl rfl
   rintro b15 hj
   obtain rfl : o16 = _ := hj
   replace h := after_go ho17
   clear ho17
   refine sy rfl rfl (y_pick (b := false) rfl rfl) ?_
   refine still_nil ?_
   obtain rfl := some_eq h
   exact goes_cut hL5 b15 [] (qv1 rfl) (by decide) rfl rfl
 rintro b1 hj
 obtain rfl : o2 = _ := hj
 replace h := after_go ho3
 clear ho3
 refine sy rfl rfl (y_assign rfl) ?_
 refine still_nil ?_
 refine goes_code ?_
 refine run_ret ?_
 obtain rfl := some_eq h
 refine fin_slots [2] [.bool b1] [] [] Try.results44 rfl (by decide) rfl ?_
 exact ⟨rfl, rfl⟩

def slices_Index_int_int_69_L1 (s_0 : (List Int)) (v_1 : Int) : (Int) → Option (Lp (Int) (Lp (Unit) (Int))) :=
 fun s_5 =>
  cond (decide (s_5 < (s_0.length : Int)))
   (idx s_0 s_5 fun x11 =>
   cond (decide (v_1 = x11))
    (some (.stop (.stop s_5)))
    (some (.go (IntKind.i64.wrap (s_5 + 1)))))
   (some (.stop (.go ())))
def slices_Index_int_int_69 (n : Nat) (s_0 : (List Int)) (v_1 : Int) : Option (Int) :=
 bindJ (S := Unit)
  (iter (slices_Index_int_int_69_L1 s_0 v_1) n 0)
 (fun _ =>
  some (-1))
theorem slices_Index_int_int_69_ok (n : Nat) (s_0 : (List Int)) (v_1 : Int) (s_0v : Value) {r : Int} (h : slices_Index_int_int_69 n s_0 v_1 = some r) :
  Meets Try.prog 69 [s_0v, .int .i64 v_1] [ro s_0v 1 (s_0.map (eInt .i64))] (fun v G => v = .int .i64 r ∧ G = []) := by
 refine fn_of_run Try.func69 rfl Try.ntmps69 rfl (fun w0 o0 => ?_)
 refine run_seq ?_
 refine run_region' ?_
 refine oy rfl rfl (y_assign rfl) ?_
 refine ops_nil ?_
 refine goes_code ?_
 obtain ⟨o1, h, ho2⟩ := bindJ_some h
 refine run_cut ((Unit) × (Unit)) (fun σ => []) (fun σ => []) (fun σ => o1 = .go σ.1) (fun L4 hL3 => ?_) ?_
 ·
  refine run_seq ?_
  refine run_region' ?_
  refine oy rfl rfl (y_move rfl) ?_
  refine oy rfl rfl ((y_len 0 rfl Try.runUnderlying35 rfl rfl reads_ro).to (v_len (eInt .i64) _)) ?_
  refine oy rfl rfl (y_move rfl) ?_
  refine ops_nil ?_
  refine goes_code ?_
  refine run_block ?_
  refine run_iter (step := slices_Index_int_int_69_L1 s_0 v_1) (n := n) (s0 := 0) h (G := Unit) () (fun σ γ => [(0, s_0v), (1, .int .i64 v_1), (7, .int .i64 (s_0.length : Int)), (8, .int .i64 σ)]) (fun σ γ => [ro s_0v 1 (s_0.map (eInt .i64))]) [0] (qv4 rfl rfl rfl rfl) (by decide) rfl ?_
  rintro s_5 _ o6 h L9 hgo7 hstop8
  change Run _ _ _ (VF.of [(0, s_0v), (1, .int .i64 v_1), (7, .int .i64 (s_0.length : Int)), (8, .int .i64 s_5)]) [ro s_0v 1 (s_0.map (eInt .i64))]
  refine run_seq ?_
  refine run_region' ?_
  refine oy rfl rfl (y_lss rfl rfl) ?_
  refine ops_nil ?_
  refine goes_code ?_
  refine run_seq ?_
  refine run_cond (decide (s_5 < (s_0.length : Int))) rfl (fun hc10 => ?_) (fun hc10 => ?_)
  ·replace h := cond_t h hc10
   refine run_skip ?_
   refine goes_code ?_
   refine run_seq ?_
   refine run_block ?_
   refine run_seq ?_
   refine run_region' ?_
   refine oy rfl rfl (y_move rfl) ?_
   refine oy rfl rfl (y_assign rfl) ?_
   refine ops_nil ?_
   refine goes_code ?_
   refine run_seq ?_
   refine run_region' ?_
   refine oy rfl rfl (y_move rfl) ?_
   refine oy rfl rfl (y_move rfl) ?_
   refine oy rfl rfl (y_move rfl) ?_
   obtain ⟨x11, hzx11, hlx11, hxx11, h⟩ := idx_some h
   refine oy rfl rfl (y_indexAddrI (kd := .i64) (i := s_5) 0 Try.runUnderlying35 Try.sizeOf3 rfl rfl rfl reads_ro hzx11 (map_lt hlx11)) ?_
   refine oy rfl rfl (y_load_elem (i := s_5.toNat) 0 Try.isAgg3 rfl rfl reads_ro (map_get hxx11)) ?_
   refine oy rfl rfl (y_eql rfl rfl) ?_
   refine ops_nil ?_
   refine goes_code ?_
   refine run_cond (decide (v_1 = x11)) rfl (fun hc12 => ?_) (fun hc12 => ?_)
   ·replace h := cond_t h hc12
    refine run_seq ?_
    refine run_weak [(5, .int .i64 s_5)] [] [] (qv1 rfl) (by decide) rfl ?_
    refine run_region' ?_
    refine oy rfl rfl (y_move rfl) ?_
    refine oy rfl rfl (y_assign rfl) ?_
    refine ops_nil ?_
    refine goes_code ?_
    refine run_ret ?_
    obtain rfl := some_eq h
    obtain rfl := hstop8 _ rfl
    skip
    obtain rfl := after_stop ho2
    refine fin_slots [4] [.int .i64 s_5] [] [] Try.results69 rfl (by decide) rfl ?_
    exact ⟨rfl, rfl⟩
   ·replace h := cond_f h hc12
    refine run_skip ?_
    refine goes_blk ?_
    refine goes_code ?_
    refine run_weak [(0, s_0v), (1, .int .i64 v_1), (7, .int .i64 (s_0.length : Int)), (8, .int .i64 s_5)] [0] [ro s_0v 1 (s_0.map (eInt .i64))] (qv4 rfl rfl rfl rfl) (by decide) rfl ?_
    refine run_region' ?_
    refine oy rfl rfl (y_add rfl rfl) ?_
    refine oy rfl rfl (y_move rfl) ?_
    refine ops_nil ?_
    obtain rfl := some_eq h
    exact goes_iter hgo7 (IntKind.i64.wrap (s_5 + 1)) () [0] rfl (qv4 rfl rfl rfl rfl) (by decide) rfl
  ·replace h := cond_f h hc10
   refine run_exit _ rfl ?_
   obtain rfl := some_eq h
   obtain rfl := hstop8 _ rfl
   exact goes_cut hL3 ((), ()) [] vnil (by decide) rfl rfl
 rintro ⟨_, _⟩ hj
 obtain rfl : o1 = _ := hj
 replace h := after_go ho2
 clear ho2
 change Run _ _ _ (VF.of []) []
 refine run_seq ?_
 refine run_region' ?_
 refine oy rfl rfl (y_assign rfl) ?_
 refine ops_nil ?_
 refine goes_code ?_
 refine run_ret ?_
 obtain rfl := some_eq h
 refine fin_slots [4] [.int .i64 (-1)] [] [] Try.results69 rfl (by decide) rfl ?_
 exact ⟨rfl, rfl⟩

def slices_Contains_int_int_45 (n : Nat) (s_0 : (List Int)) (v_1 : Int) : Option (Bool) :=
 obind (slices_Index_int_int_69 n s_0 v_1) fun r1 =>
 some (decide (0 ≤ r1))
theorem slices_Contains_int_int_45_ok (n : Nat) (s_0 : (List Int)) (v_1 : Int) (s_0v : Value) {r : Bool} (h : slices_Contains_int_int_45 n s_0 v_1 = some r) :
  Meets Try.prog 45 [s_0v, .int .i64 v_1] [ro s_0v 1 (s_0.map (eInt .i64))] (fun v G => v = .bool r ∧ G = []) := by
 refine fn_of_run Try.func45 rfl Try.ntmps45 rfl (fun w0 o0 => ?_)
 refine run_seq ?_
 refine run_region' ?_
 refine oy rfl rfl (y_assign rfl) ?_
 refine ops_nil ?_
 refine goes_code ?_
 refine run_seq ?_
 refine run_region' ?_
 refine oy rfl rfl (y_move rfl) ?_
 refine oy rfl rfl (y_move rfl) ?_
 obtain ⟨r1, hr2, h⟩ := obind_some h
 refine ot rfl rfl (t_callx (vs := [s_0v, .int .i64 v_1]) (cs := []) [(0, 0)] rfl Try.call69 rfl (slices_Index_int_int_69_ok n s_0 v_1 s_0v hr2) (showsX_view 0 rfl views_ro showsX_nil) rfl (.inl rfl)) ?_
 rintro _ _ ⟨_, ⟨rfl, rfl⟩, rfl⟩
 refine oy rfl rfl (y_geq rfl rfl) ?_
 refine oy rfl rfl (y_assign rfl) ?_
 refine ops_nil ?_
 refine goes_code ?_
 refine run_ret ?_
 obtain rfl := some_eq h
 refine fin_slots [4] [.bool (decide (0 ≤ r1))] [] [] Try.results45 rfl (by decide) rfl ?_
 exact ⟨rfl, rfl⟩

def topo_ValidMap_L1 (m_0 : S_api_Map) (r2 : (List (Int × Int))) : ((List Int) × Int × Int) → Option (Lp ((List Int) × Int × Int) (Lp ((List Int)) (Bool))) :=
 fun (parents_11, last_12, s_13) =>
  cond (decide (s_13 < (m_0.Hubs.length : Int)))
   (idx m_0.Hubs s_13 fun x20 =>
   obind (topo_isSite x20.Site) fun r22 =>
   cond (((!r22) || decide (x20.Site ≤ last_12)) || (!((mget r2 x20.Parent).isSome)))
    (some (.stop (.stop false)))
    (need (parents_11.length + ([((mget r2 x20.Parent).getD 0)] : List Int).length ≤ 4294967296) (
    some (.go ((parents_11 ++ ([((mget r2 x20.Parent).getD 0)] : List Int)), x20.Site, (IntKind.i64.wrap (s_13 + 1)))))))
   (some (.stop (.go parents_11)))
def topo_ValidMap_L3 (n : Nat) (r2 : (List (Int × Int))) (x55 : S_api_Route) : (Int) → Option (Lp (Int) (Lp (Unit) (Lp (Int) (Lp (Unit) (Bool))))) :=
 fun s_76 =>
  cond (decide (s_76 < (x55.Sites.length : Int)))
   (idx x55.Sites s_76 fun x82 =>
   bindJ (S := Bool)
    (cond ((!((mget r2 x82).isSome)) || decide (x82 < 0))
     (some (.go true))
     (need (0 ≤ (0 : Int) ∧ 0 ≤ s_76 ∧ s_76 ≤ (x55.Sites.length : Int)) (
     obind (slices_Contains_int_int_45 n (x55.Sites.take s_76.toNat) x82) fun r93 =>
     some (.go r93))))
   (fun b86 =>
    cond b86
     (some (.stop (.stop (.stop (.stop false)))))
     (some (.go (IntKind.i64.wrap (s_76 + 1))))))
   (some (.stop (.go ())))
def topo_ValidMap_L2 (n : Nat) (m_0 : S_api_Map) (r2 : (List (Int × Int))) : (Int) → Option (Lp (Int) (Lp (Unit) (Bool))) :=
 fun s_45 =>
  cond (decide (s_45 < (m_0.Routes.length : Int)))
   (bindJ (S := Unit)
    (idx m_0.Routes s_45 fun x55 =>
    obind (topo_isCountry x55.Country) fun r59 =>
    bindJ (S := Bool)
     (cond (!r59)
      (some (.go true))
      (bindJ (S := Bool)
       (cond (decide (0 < s_45))
        (idx m_0.Routes (IntKind.i64.wrap (s_45 - 1)) fun x73 =>
        some (.go (strLt x55.Country x73.Country || decide (x55.Country = x73.Country))))
        (some (.go false)))
      (fun b67 =>
       some (.go b67))))
    (fun b61 =>
     cond b61
      (some (.stop (.stop (.stop false))))
      (iter (topo_ValidMap_L3 n r2 x55) n 0)))
   (fun _ =>
    some (.go (IntKind.i64.wrap (s_45 + 1)))))
   (some (.stop (.go ())))
def topo_ValidMap (n : Nat) (m_0 : S_api_Map) : Option (Bool) :=
 obind (topo_places n m_0) fun r2 =>
 bindJ (S := (List Int))
  (iter (topo_ValidMap_L1 m_0 r2) n (([] : List Int), (-1), 0))
 (fun parents_5 =>
  obind (graph_Depths n parents_5) fun r34 =>
  cond (decide (r34.2 ≠ 0) || decide (1000 < (m_0.Routes.length : Int)))
   (some false)
   (bindJ (S := Unit)
    (iter (topo_ValidMap_L2 n m_0 r2) n 0)
   (fun _ =>
    some true)))
theorem topo_ValidMap_ok (n : Nat) (m_0 : S_api_Map) (m_0_Hubsv : Value) (m_0_Routesv : Value) {r : Bool} (h : topo_ValidMap n m_0 = some r) :
  Meets Try.prog 17 [.agg #[m_0_Hubsv, m_0_Routesv]] [ro m_0_Hubsv 3 (m_0.Hubs.map S_api_Hub.enc), nro m_0_Routesv NC_api_Route_82 m_0.Routes] (fun v G => v = .bool r ∧ G = []) := by
 refine fn_of_run Try.func17 rfl Try.ntmps17 rfl (fun w0 o0 => ?_)
 refine run_seq ?_
 refine run_region' ?_
 refine ot rfl rfl (t_box rfl) ?_
 rintro _ _ ⟨b1, rfl, rfl⟩
 refine oy rfl rfl (y_assign rfl) ?_
 refine ops_nil ?_
 refine goes_code ?_
 refine run_seq ?_
 refine run_region' ?_
 refine oy rfl rfl (y_load_boxagg (c := [m_0_Hubsv, m_0_Routesv]) 2 Try.isAgg25 Try.sizeOf25 rfl rfl rfl) ?_
 obtain ⟨r2, hr3, h⟩ := obind_some h
 refine ot rfl rfl (t_callx (vs := [.agg #[m_0_Hubsv, m_0_Routesv]]) (cs := []) [(0, 0), (1, 0)] rfl Try.call34 rfl (topo_places_ok n m_0 m_0_Hubsv m_0_Routesv hr3) (showsX_view 0 rfl views_ro (showsX_view 1 rfl views_nro showsX_nil)) rfl (.inl rfl)) ?_
 rintro _ _ ⟨_, ⟨v4, rfl, rfl⟩, rfl⟩
 refine oy rfl rfl (y_assign rfl) ?_
 refine ops_nil ?_
 refine goes_code ?_
 refine run_seq ?_
 refine run_region' ?_
 refine oy rfl rfl (y_assign rfl) ?_
 refine ops_nil ?_
 refine goes_code ?_
 refine run_seq ?_
 refine run_region' ?_
 refine oy rfl rfl (y_assign rfl) ?_
 refine ops_nil ?_
 refine goes_code ?_
 obtain ⟨o7, h, ho8⟩ := bindJ_some h
 refine run_cut (((List Int)) × (Value)) (fun σ => [(1, boxP b1 0), (3, .map (some v4)), (4, σ.2)]) (fun σ => [box b1 [m_0_Hubsv, m_0_Routesv], ro m_0_Hubsv 3 (m_0.Hubs.map S_api_Hub.enc), nro m_0_Routesv NC_api_Route_82 m_0.Routes, mapis v4 (mcells (fun n : Int => Value.int .i64 n) (fun n : Int => Value.int .i64 n) r2), row σ.2 1 (σ.1.map (eInt .i64))]) (fun σ => o7 = .go σ.1) (fun L10 hL9 => ?_) ?_
 ·
  refine run_seq ?_
  refine run_region' ?_
  refine oy rfl rfl (y_fieldAddr_box (sz := 0) Try.runUnderlying25 rfl Try.sizeOf22 rfl) ?_
  refine oy rfl rfl (y_load_box 2 Try.isAgg22 rfl rfl rfl) ?_
  refine oy rfl rfl ((y_len 0 rfl Try.runUnderlying22 rfl rfl reads_ro).to (v_len S_api_Hub.enc _)) ?_
  refine oy rfl rfl (y_move rfl) ?_
  refine ops_nil ?_
  refine goes_code ?_
  refine run_block ?_
  refine run_turn (nilrow 1) ?_
  refine run_turn (retell 4 (g := row (.slice none 0 0) 1 (([] : List Int).map (eInt .i64))) rfl rfl) ?_
  refine run_iter (step := topo_ValidMap_L1 m_0 r2) (n := n) (s0 := (([] : List Int), (-1), 0)) h (G := Value) (.slice none 0 0) (fun σ γ => [(1, boxP b1 0), (3, .map (some v4)), (4, γ), (5, .int .i64 σ.2.1), (21, m_0_Hubsv), (22, .int .i64 (m_0.Hubs.length : Int)), (23, .int .i64 σ.2.2)]) (fun σ γ => [box b1 [m_0_Hubsv, m_0_Routesv], ro m_0_Hubsv 3 (m_0.Hubs.map S_api_Hub.enc), nro m_0_Routesv NC_api_Route_82 m_0.Routes, mapis v4 (mcells (fun n : Int => Value.int .i64 n) (fun n : Int => Value.int .i64 n) r2), row γ 1 (σ.1.map (eInt .i64))]) [2, 0, 1, 3, 4] (qv7 rfl rfl rfl rfl rfl rfl rfl) (by decide) rfl ?_
  rintro ⟨parents_11, last_12, s_13⟩ v14 o15 h L18 hgo16 hstop17
  change Run _ _ _ (VF.of [(1, boxP b1 0), (3, .map (some v4)), (4, v14), (5, .int .i64 last_12), (21, m_0_Hubsv), (22, .int .i64 (m_0.Hubs.length : Int)), (23, .int .i64 s_13)]) [box b1 [m_0_Hubsv, m_0_Routesv], ro m_0_Hubsv 3 (m_0.Hubs.map S_api_Hub.enc), nro m_0_Routesv NC_api_Route_82 m_0.Routes, mapis v4 (mcells (fun n : Int => Value.int .i64 n) (fun n : Int => Value.int .i64 n) r2), row v14 1 (parents_11.map (eInt .i64))]
  refine run_seq ?_
  refine run_region' ?_
  refine oy rfl rfl (y_lss rfl rfl) ?_
  refine ops_nil ?_
  refine goes_code ?_
  refine run_seq ?_
  refine run_cond (decide (s_13 < (m_0.Hubs.length : Int))) rfl (fun hc19 => ?_) (fun hc19 => ?_)
  ·replace h := cond_t h hc19
   refine run_skip ?_
   refine goes_code ?_
   refine run_seq ?_
   refine run_block ?_
   refine run_seq ?_
   refine run_region' ?_
   obtain ⟨x20, hzx20, hlx20, hxx20, h⟩ := idx_some h
   refine oy rfl rfl (y_indexAddrI (kd := .i64) (i := s_13) 1 Try.runUnderlying22 Try.sizeOf52 rfl rfl rfl reads_ro hzx20 (map_lt hlx20)) ?_
   refine oy rfl rfl (y_load_agg (i := s_13.toNat) (c := [.int .i64 x20.Site, .int .i64 x20.Parent, .bool x20.Up]) 1 Try.isAgg52 Try.sizeOf52 rfl rfl reads_ro (map_get hxx20)) ?_
   refine ot rfl rfl (t_alloc Try.zeroValue52) ?_
   rintro _ _ ⟨b21, rfl, rfl⟩
   refine ot rfl rfl (t_store 5 Try.sizeOf52 rfl rfl rfl rfl (by simp [Value.cells, boxP]) (by simp [Value.cells, Value.oneCell', boxP])) ?_
   rintro _ _ ⟨rfl, rfl⟩
   refine ops_turn (retell 5 (g := box b21 [.int .i64 x20.Site, .int .i64 x20.Parent, .bool x20.Up]) rfl rfl) ?_
   refine ops_nil ?_
   refine goes_code ?_
   refine run_seq ?_
   refine run_region' ?_
   refine oy rfl rfl (y_move rfl) ?_
   refine oy rfl rfl (y_fieldAddr_box (sz := 0) Try.runUnderlying52 rfl Try.sizeOf3 rfl) ?_
   refine oy rfl rfl (y_load_box 5 Try.isAgg3 rfl rfl rfl) ?_
   refine oy rfl rfl (y_lookup2 (k := x20.Parent) (d0 := 0) 3 (key_int .i64) Try.runUnderlying85 Try.runUnderlying3 Try.zeroValue3 rfl rfl rfl) ?_
   refine oy rfl rfl (y_move rfl) ?_
   refine oy rfl rfl (y_extract rfl rfl) ?_
   refine oy rfl rfl (y_extract rfl rfl) ?_
   refine oy rfl rfl (y_assign rfl) ?_
   refine oy rfl rfl (y_assign rfl) ?_
   refine ops_nil ?_
   refine goes_code ?_
   refine run_seq ?_
   refine run_seq ?_
   refine run_weak [(1, boxP b1 0), (3, .map (some v4)), (4, v14), (5, .int .i64 last_12), (21, m_0_Hubsv), (22, .int .i64 (m_0.Hubs.length : Int)), (23, .int .i64 s_13), (7, boxP b21 0), (8, .int .i64 ((mget r2 x20.Parent).getD 0)), (9, .bool ((mget r2 x20.Parent).isSome))] [0, 1, 2, 3, 4, 5] [box b1 [m_0_Hubsv, m_0_Routesv], ro m_0_Hubsv 3 (m_0.Hubs.map S_api_Hub.enc), nro m_0_Routesv NC_api_Route_82 m_0.Routes, mapis v4 (mcells (fun n : Int => Value.int .i64 n) (fun n : Int => Value.int .i64 n) r2), row v14 1 (parents_11.map (eInt .i64)), box b21 [.int .i64 x20.Site, .int .i64 x20.Parent, .bool x20.Up]] (qv10 rfl rfl rfl rfl rfl rfl rfl rfl rfl rfl) (by decide) rfl ?_
   refine run_region' ?_
   refine oy rfl rfl (y_fieldAddr_box (sz := 0) Try.runUnderlying52 rfl Try.sizeOf3 rfl) ?_
   refine oy rfl rfl (y_load_box 5 Try.isAgg3 rfl rfl rfl) ?_
   obtain ⟨r22, hr23, h⟩ := obind_some h
   refine ot rfl rfl (t_callx (vs := [.int .i64 x20.Site]) (cs := []) [] rfl Try.call42 rfl (topo_isSite_ok x20.Site  hr23) showsX_nil rfl (.inl rfl)) ?_
   rintro _ _ ⟨_, ⟨rfl, rfl⟩, rfl⟩
   refine oy rfl rfl (y_not rfl) ?_
   refine oy rfl rfl (y_move rfl) ?_
   refine ops_cut 5 (Bool) (fun σ => [(1, boxP b1 0), (3, .map (some v4)), (4, v14), (21, m_0_Hubsv), (22, .int .i64 (m_0.Hubs.length : Int)), (23, .int .i64 s_13), (7, boxP b21 0), (8, .int .i64 ((mget r2 x20.Parent).getD 0)), (9, .bool ((mget r2 x20.Parent).isSome)), (43, .bool σ)]) (fun σ => [box b1 [m_0_Hubsv, m_0_Routesv], ro m_0_Hubsv 3 (m_0.Hubs.map S_api_Hub.enc), nro m_0_Routesv NC_api_Route_82 m_0.Routes, mapis v4 (mcells (fun n : Int => Value.int .i64 n) (fun n : Int => Value.int .i64 n) r2), row v14 1 (parents_11.map (eInt .i64)), box b21 [.int .i64 x20.Site, .int .i64 x20.Parent, .bool x20.Up]]) (fun σ => σ = ((!r22) || decide (x20.Site ≤ last_12))) (fun L24 hL25 => ?_) ?_
   ·refine ops_split 38 (!r22) rfl (fun hg26 => ?_) (fun hg26 => ?_)
    ·skip
     refine ops_no 4 false 38 rfl rfl rfl rfl rfl ?_
     refine ops_no 4 false 38 rfl rfl rfl rfl rfl ?_
     refine ops_no 4 false 38 rfl rfl rfl rfl rfl ?_
     refine ops_no 4 false 38 rfl rfl rfl rfl rfl ?_
     refine oy rfl rfl (y_pick (b := true) rfl rfl) ?_
     refine ops_nil ?_
     exact goes_cut hL25 true [0, 1, 2, 3, 4, 5] (qv10 rfl rfl rfl rfl rfl rfl rfl rfl rfl rfl) (by decide) rfl (by rw [hg26]; simp)
    ·skip
     refine ops_y (wg 4 false 38 rfl rfl rfl rfl) rfl (y_fieldAddr_box (sz := 0) Try.runUnderlying52 rfl Try.sizeOf3 rfl) ?_
     refine ops_y (wg 4 false 38 rfl rfl rfl rfl) rfl (y_load_box 5 Try.isAgg3 rfl rfl rfl) ?_
     refine ops_y (wg 4 false 38 rfl rfl rfl rfl) rfl (y_move rfl) ?_
     refine ops_y (wg 4 false 38 rfl rfl rfl rfl) rfl (y_leq rfl rfl) ?_
     refine oy rfl rfl (y_pick (b := false) rfl rfl) ?_
     refine ops_nil ?_
     exact goes_cut hL25 (decide (x20.Site ≤ last_12)) [0, 1, 2, 3, 4, 5] (qv10 rfl rfl rfl rfl rfl rfl rfl rfl rfl rfl) (by decide) rfl (by rw [hg26]; simp)
   rintro _ rfl
   refine oy rfl rfl (y_move rfl) ?_
   refine ops_cut 3 (Bool) (fun σ => [(1, boxP b1 0), (3, .map (some v4)), (4, v14), (21, m_0_Hubsv), (22, .int .i64 (m_0.Hubs.length : Int)), (23, .int .i64 s_13), (7, boxP b21 0), (8, .int .i64 ((mget r2 x20.Parent).getD 0)), (47, .bool σ)]) (fun σ => [box b1 [m_0_Hubsv, m_0_Routesv], ro m_0_Hubsv 3 (m_0.Hubs.map S_api_Hub.enc), nro m_0_Routesv NC_api_Route_82 m_0.Routes, mapis v4 (mcells (fun n : Int => Value.int .i64 n) (fun n : Int => Value.int .i64 n) r2), row v14 1 (parents_11.map (eInt .i64)), box b21 [.int .i64 x20.Site, .int .i64 x20.Parent, .bool x20.Up]]) (fun σ => σ = (((!r22) || decide (x20.Site ≤ last_12)) || (!((mget r2 x20.Parent).isSome)))) (fun L27 hL28 => ?_) ?_
   ·refine ops_split 44 ((!r22) || decide (x20.Site ≤ last_12)) rfl (fun hg29 => ?_) (fun hg29 => ?_)
    ·skip
     refine ops_no 10 false 44 rfl rfl rfl rfl rfl ?_
     refine ops_no 10 false 44 rfl rfl rfl rfl rfl ?_
     refine oy rfl rfl (y_pick (b := true) rfl rfl) ?_
     refine ops_nil ?_
     exact goes_cut hL28 true [0, 1, 2, 3, 4, 5] (qv9 rfl rfl rfl rfl rfl rfl rfl rfl rfl) (by decide) rfl (by rw [hg29]; simp)
    ·skip
     refine ops_y (wg 10 false 44 rfl rfl rfl rfl) rfl (y_move rfl) ?_
     refine ops_y (wg 10 false 44 rfl rfl rfl rfl) rfl (y_not rfl) ?_
     refine oy rfl rfl (y_pick (b := false) rfl rfl) ?_
     refine ops_nil ?_
     exact goes_cut hL28 (!((mget r2 x20.Parent).isSome)) [0, 1, 2, 3, 4, 5] (qv9 rfl rfl rfl rfl rfl rfl rfl rfl rfl) (by decide) rfl (by rw [hg29]; simp)
   rintro _ rfl
   refine ops_nil ?_
   refine goes_code ?_
   refine run_cond (((!r22) || decide (x20.Site ≤ last_12)) || (!((mget r2 x20.Parent).isSome))) rfl (fun hc30 => ?_) (fun hc30 => ?_)
   ·replace h := cond_t h hc30
    refine run_seq ?_
    refine run_region' ?_
    refine oy rfl rfl (y_assign rfl) ?_
    refine ops_nil ?_
    refine goes_code ?_
    refine run_ret ?_
    obtain rfl := some_eq h
    obtain rfl := hstop17 _ rfl
    skip
    obtain rfl := after_stop ho8
    refine fin_slots [2] [.bool false] [] [] Try.results17 rfl (by decide) rfl ?_
    exact ⟨rfl, rfl⟩
   ·replace h := cond_f h hc30
    refine run_skip ?_
    refine goes_code ?_
    refine run_drawany [box b1 [m_0_Hubsv, m_0_Routesv], ro m_0_Hubsv 3 (m_0.Hubs.map S_api_Hub.enc), nro m_0_Routesv NC_api_Route_82 m_0.Routes, mapis v4 (mcells (fun n : Int => Value.int .i64 n) (fun n : Int => Value.int .i64 n) r2), HA.emp, box b21 [.int .i64 x20.Site, .int .i64 x20.Parent, .bool x20.Up]] (by kernel_rfl) ?_
    refine any_y 0 rfl (by kernel_rfl) (by kernel_rfl) (by kernel_rfl) (ss (ss (ss (ss (se (ss (sn))))))) (wn rfl) rfl (y_fieldAddr_box (sz := 0) Try.runUnderlying52 rfl Try.sizeOf3 rfl) ?_
    refine any_y 1 rfl (by kernel_rfl) (by kernel_rfl) (by kernel_rfl) (ss (ss (ss (ss (se (ss (sn))))))) (wn rfl) rfl (y_load_box 5 Try.isAgg3 rfl rfl rfl) ?_
    refine any_y 2 rfl (by kernel_rfl) (by kernel_rfl) (by kernel_rfl) (ss (ss (ss (ss (se (ss (sn))))))) (wn rfl) rfl (y_move rfl) ?_
    refine any_y 3 rfl (by kernel_rfl) (by kernel_rfl) (by kernel_rfl) (ss (ss (ss (ss (se (ss (sn))))))) (wn rfl) rfl (y_move rfl) ?_
    refine any_all [4] (by kernel_rfl) rfl (anyo_cons ?_ anyo_nil)
    refine any_t rfl (wn rfl) rfl (t_lit [.int .i64 ((mget r2 x20.Parent).getD 0)] Try.runUnderlying35 Try.sizeOf3 Try.zeroValue3 rfl (by decide) (by decide) rfl (by simp [Value.cells, boxP])) ?_
    rintro v31 _ ⟨rfl, _⟩
    refine ⟨(ss (ss (ss (ss (se (ss (sn))))))), ?_⟩
    refine any_turn (retell 6 (g := row v31 1 (([((mget r2 x20.Parent).getD 0)] : List Int).map (eInt .i64))) rfl rfl) ?_
    refine any_all [5] (by kernel_rfl) rfl (anyo_cons ?_ anyo_nil)
    obtain ⟨hr33, h⟩ := need_some h
    refine any_t rfl (wn rfl) rfl (t_append (es := 1) 4 rfl Try.runUnderlying35 rfl Try.runUnderlying35 (.inr ⟨_, rfl⟩) Try.typeInfo3 rfl (by decide) Try.zeroValue3 rfl rfl rfl rfl (src_reads 6 rfl reads_row (map_ok (eInt_ok _) _)) (map_room hr33 (by decide)) (map_fit hr33)) ?_
    rintro v32 _ rfl
    refine ⟨(ss (ss (ss (ss (se (ss (sn))))))), ?_⟩
    refine any_turn (retell 4 (g := row v32 1 ((parents_11 ++ ([((mget r2 x20.Parent).getD 0)] : List Int)).map (eInt .i64))) rfl (congrArg (row _ _) List.map_append.symm)) ?_
    refine any_y 6 rfl (by kernel_rfl) (by kernel_rfl) (by kernel_rfl) (ss (ss (ss (ss (se (ss (sn))))))) (wn rfl) rfl (y_assign rfl) ?_
    refine any_y 7 rfl (by kernel_rfl) (by kernel_rfl) (by kernel_rfl) (ss (ss (ss (ss (se (ss (sn))))))) (wn rfl) rfl (y_assign rfl) ?_
    refine any_nil (by kernel_rfl) ?_
    refine goes_blk ?_
    refine goes_code ?_
    refine run_weak [(1, boxP b1 0), (3, .map (some v4)), (4, v32), (21, m_0_Hubsv), (22, .int .i64 (m_0.Hubs.length : Int)), (23, .int .i64 s_13), (5, .int .i64 x20.Site)] [0, 1, 2, 3, 4] [box b1 [m_0_Hubsv, m_0_Routesv], ro m_0_Hubsv 3 (m_0.Hubs.map S_api_Hub.enc), nro m_0_Routesv NC_api_Route_82 m_0.Routes, mapis v4 (mcells (fun n : Int => Value.int .i64 n) (fun n : Int => Value.int .i64 n) r2), row v32 1 ((parents_11 ++ ([((mget r2 x20.Parent).getD 0)] : List Int)).map (eInt .i64))] (qv7 rfl rfl rfl rfl rfl rfl rfl) (by decide) rfl ?_
    refine run_region' ?_
    refine oy rfl rfl (y_add rfl rfl) ?_
    refine oy rfl rfl (y_move rfl) ?_
    refine ops_nil ?_
    obtain rfl := some_eq h
    exact goes_iter hgo16 ((parents_11 ++ ([((mget r2 x20.Parent).getD 0)] : List Int)), x20.Site, (IntKind.i64.wrap (s_13 + 1))) v32 [0, 1, 2, 3, 4] rfl (qv7 rfl rfl rfl rfl rfl rfl rfl) (by decide) rfl
  ·replace h := cond_f h hc19
   refine run_exit _ rfl ?_
   obtain rfl := some_eq h
   obtain rfl := hstop17 _ rfl
   exact goes_cut hL9 (parents_11, v14) [0, 1, 2, 3, 4] (qv3 rfl rfl rfl) (by decide) rfl rfl
 rintro ⟨parents_5, v6⟩ hj
 obtain rfl : o7 = _ := hj
 replace h := after_go ho8
 clear ho8
 change Run _ _ _ (VF.of [(1, boxP b1 0), (3, .map (some v4)), (4, v6)]) [box b1 [m_0_Hubsv, m_0_Routesv], ro m_0_Hubsv 3 (m_0.Hubs.map S_api_Hub.enc), nro m_0_Routesv NC_api_Route_82 m_0.Routes, mapis v4 (mcells (fun n : Int => Value.int .i64 n) (fun n : Int => Value.int .i64 n) r2), row v6 1 (parents_5.map (eInt .i64))]
 refine run_seq ?_
 refine run_seq ?_
 refine run_region' ?_
 refine oy rfl rfl (y_move rfl) ?_
 obtain ⟨r34, hr35, h⟩ := obind_some h
 refine ot rfl rfl (t_callx (vs := [v6]) (cs := []) [(4, 1)] rfl Try.call43 rfl (graph_Depths_ok n parents_5 v6 hr35) (showsX_look 4 rfl views_row showsX_nil) rfl (.inr (by rintro _ _ ⟨_, rfl, rfl⟩ g hg; first | (cases hg; done) | (simp only [List.mem_cons, List.not_mem_nil, or_false] at hg; first | (subst hg; first | exact strict_row | exact strict_box) | (rcases hg with rfl | rfl <;> first | exact strict_row | exact strict_box) | (rcases hg with rfl | rfl | rfl <;> first | exact strict_row | exact strict_box))))) ?_
 rintro _ _ ⟨_, ⟨v36, rfl, rfl⟩, rfl⟩
 refine oy rfl rfl (y_move rfl) ?_
 refine oy rfl rfl (y_extract rfl rfl) ?_
 refine oy rfl rfl (y_extract rfl rfl) ?_
 refine oy rfl rfl (y_assign rfl) ?_
 refine oy rfl rfl (y_assign rfl) ?_
 refine ops_nil ?_
 refine goes_code ?_
 refine run_seq ?_
 refine run_region' ?_
 refine oy rfl rfl (y_move rfl) ?_
 refine oy rfl rfl (y_neq rfl rfl) ?_
 refine oy rfl rfl (y_move rfl) ?_
 refine ops_cut 5 (Bool) (fun σ => [(1, boxP b1 0), (3, .map (some v4)), (67, .bool σ)]) (fun σ => [box b1 [m_0_Hubsv, m_0_Routesv], ro m_0_Hubsv 3 (m_0.Hubs.map S_api_Hub.enc), nro m_0_Routesv NC_api_Route_82 m_0.Routes, mapis v4 (mcells (fun n : Int => Value.int .i64 n) (fun n : Int => Value.int .i64 n) r2)]) (fun σ => σ = (decide (r34.2 ≠ 0) || decide (1000 < (m_0.Routes.length : Int)))) (fun L37 hL38 => ?_) ?_
 ·refine ops_split 62 (decide (r34.2 ≠ 0)) rfl (fun hg39 => ?_) (fun hg39 => ?_)
  ·skip
   refine ops_no 2 false 62 rfl rfl rfl rfl rfl ?_
   refine ops_no 2 false 62 rfl rfl rfl rfl rfl ?_
   refine ops_no 2 false 62 rfl rfl rfl rfl rfl ?_
   refine ops_no 2 false 62 rfl rfl rfl rfl rfl ?_
   refine oy rfl rfl (y_pick (b := true) rfl rfl) ?_
   refine ops_nil ?_
   exact goes_cut hL38 true [0, 1, 2, 3] (qv3 rfl rfl rfl) (by decide) rfl (by rw [hg39]; simp)
  ·skip
   refine ops_y (wg 2 false 62 rfl rfl rfl rfl) rfl (y_fieldAddr_box (sz := 0) Try.runUnderlying25 rfl Try.sizeOf23 rfl) ?_
   refine ops_y (wg 2 false 62 rfl rfl rfl rfl) rfl (y_load_box 0 Try.isAgg23 rfl rfl rfl) ?_
   refine ops_y (wg 2 false 62 rfl rfl rfl rfl) rfl (y_lenN 2 rfl Try.runUnderlying23 rfl rfl readsN_ro) ?_
   refine ops_y (wg 2 false 62 rfl rfl rfl rfl) rfl (y_gtr rfl rfl) ?_
   refine oy rfl rfl (y_pick (b := false) rfl rfl) ?_
   refine ops_nil ?_
   exact goes_cut hL38 (decide (1000 < (m_0.Routes.length : Int))) [0, 1, 2, 3] (qv3 rfl rfl rfl) (by decide) rfl (by rw [hg39]; simp)
 rintro _ rfl
 refine ops_nil ?_
 refine goes_code ?_
 refine run_cond (decide (r34.2 ≠ 0) || decide (1000 < (m_0.Routes.length : Int))) rfl (fun hc40 => ?_) (fun hc40 => ?_)
 ·replace h := cond_t h hc40
  refine run_seq ?_
  refine run_region' ?_
  refine oy rfl rfl (y_assign rfl) ?_
  refine ops_nil ?_
  refine goes_code ?_
  refine run_ret ?_
  obtain rfl := some_eq h
  refine fin_slots [2] [.bool false] [] [] Try.results17 rfl (by decide) rfl ?_
  exact ⟨rfl, rfl⟩
 ·replace h := cond_f h hc40
  refine run_skip ?_
  refine goes_code ?_
  obtain ⟨o41, h, ho42⟩ := bindJ_some h
  refine run_cut ((Unit) × (Unit)) (fun σ => []) (fun σ => []) (fun σ => o41 = .go σ.1) (fun L44 hL43 => ?_) ?_
  ·
   refine run_seq ?_
   refine run_region' ?_
   refine oy rfl rfl (y_fieldAddr_box (sz := 0) Try.runUnderlying25 rfl Try.sizeOf23 rfl) ?_
   refine oy rfl rfl (y_load_box 0 Try.isAgg23 rfl rfl rfl) ?_
   refine oy rfl rfl (y_lenN 2 rfl Try.runUnderlying23 rfl rfl readsN_ro) ?_
   refine oy rfl rfl (y_move rfl) ?_
   refine ops_nil ?_
   refine goes_code ?_
   refine run_block ?_
   refine run_iter (step := topo_ValidMap_L2 n m_0 r2) (n := n) (s0 := 0) h (G := Unit) () (fun σ γ => [(1, boxP b1 0), (3, .map (some v4)), (69, m_0_Routesv), (70, .int .i64 (m_0.Routes.length : Int)), (71, .int .i64 σ)]) (fun σ γ => [box b1 [m_0_Hubsv, m_0_Routesv], ro m_0_Hubsv 3 (m_0.Hubs.map S_api_Hub.enc), nro m_0_Routesv NC_api_Route_82 m_0.Routes, mapis v4 (mcells (fun n : Int => Value.int .i64 n) (fun n : Int => Value.int .i64 n) r2)]) [0, 1, 2, 3] (qv5 rfl rfl rfl rfl rfl) (by decide) rfl ?_
   rintro s_45 _ o46 h L49 hgo47 hstop48
   change Run _ _ _ (VF.of [(1, boxP b1 0), (3, .map (some v4)), (69, m_0_Routesv), (70, .int .i64 (m_0.Routes.length : Int)), (71, .int .i64 s_45)]) [box b1 [m_0_Hubsv, m_0_Routesv], ro m_0_Hubsv 3 (m_0.Hubs.map S_api_Hub.enc), nro m_0_Routesv NC_api_Route_82 m_0.Routes, mapis v4 (mcells (fun n : Int => Value.int .i64 n) (fun n : Int => Value.int .i64 n) r2)]
   refine run_seq ?_
   refine run_region' ?_
   refine oy rfl rfl (y_lss rfl rfl) ?_
   refine ops_nil ?_
   refine goes_code ?_
   refine run_seq ?_
   refine run_cond (decide (s_45 < (m_0.Routes.length : Int))) rfl (fun hc50 => ?_) (fun hc50 => ?_)
   ·replace h := cond_t h hc50
    refine run_skip ?_
    refine goes_code ?_
    obtain ⟨o51, h, ho52⟩ := bindJ_some h
    refine run_cut ((Unit) × (Unit)) (fun σ => [(1, boxP b1 0), (3, .map (some v4)), (69, m_0_Routesv), (70, .int .i64 (m_0.Routes.length : Int)), (71, .int .i64 s_45)]) (fun σ => [box b1 [m_0_Hubsv, m_0_Routesv], ro m_0_Hubsv 3 (m_0.Hubs.map S_api_Hub.enc), nro m_0_Routesv NC_api_Route_82 m_0.Routes, mapis v4 (mcells (fun n : Int => Value.int .i64 n) (fun n : Int => Value.int .i64 n) r2)]) (fun σ => o51 = .go σ.1) (fun L54 hL53 => ?_) ?_
    ·
     refine run_block ?_
     refine run_seq ?_
     refine run_region' ?_
     refine oy rfl rfl (y_move rfl) ?_
     obtain ⟨x55, hzx55, hlx55, hxx55, h⟩ := idx_some h
     refine oy rfl rfl (y_indexAddrN (kd := .i64) (i := s_45) 2 Try.runUnderlying23 Try.sizeOf82 rfl rfl rfl readsN_ro hzx55 hlx55) ?_
     refine ops_ex (exAt (C := NC_api_Route_82) (i := s_45.toNat) 2 rfl hxx55) ?_
     rintro g56
     refine oy rfl rfl (y_load_atagg (n := s_45.toNat * 2) (j := 0) (c := [.string (bs x55.Country), g56]) 4 Try.isAgg82 Try.sizeOf82 rfl rfl rfl) ?_
     refine ot rfl rfl (t_alloc Try.zeroValue82) ?_
     rintro _ _ ⟨b57, rfl, rfl⟩
     refine oy rfl rfl (y_assign rfl) ?_
     refine ops_slc 5 rfl reads_ro (fun hs58 hs58o => ?_)
     refine ot rfl rfl (t_store 6 Try.sizeOf82 rfl rfl rfl rfl (by simp [Value.cells, boxP]) (allL_cons rfl (allL_cons hs58o (allL_nil)))) ?_
     rintro _ _ ⟨rfl, rfl⟩
     refine ops_turn (retell 6 (g := box b57 [.string (bs x55.Country), g56]) rfl rfl) ?_
     refine ops_nil ?_
     refine goes_code ?_
     refine run_seq ?_
     refine run_seq ?_
     refine run_drawany [box b1 [m_0_Hubsv, m_0_Routesv], ro m_0_Hubsv 3 (m_0.Hubs.map S_api_Hub.enc), nro m_0_Routesv NC_api_Route_82 m_0.Routes, mapis v4 (mcells (fun n : Int => Value.int .i64 n) (fun n : Int => Value.int .i64 n) r2), atc m_0_Routesv (s_45.toNat * 2) [.string (bs x55.Country), g56], ro g56 1 (x55.Sites.map (eInt .i64)), box b57 [.string (bs x55.Country), g56]] (by kernel_rfl) ?_
     refine any_y 0 rfl (by kernel_rfl) (by kernel_rfl) (by kernel_rfl) (ss (ss (ss (ss (ss (ss (ss (sn)))))))) (wn rfl) rfl (y_fieldAddr_box (sz := 0) Try.runUnderlying82 rfl Try.sizeOf9 rfl) ?_
     refine any_y 1 rfl (by kernel_rfl) (by kernel_rfl) (by kernel_rfl) (ss (ss (ss (ss (ss (ss (ss (sn)))))))) (wn rfl) rfl (y_load_box 6 Try.isAgg9 rfl rfl rfl) ?_
     refine any_all [2] (by kernel_rfl) rfl (anyo_cons ?_ anyo_nil)
     obtain ⟨r59, hr60, h⟩ := obind_some h
     refine any_t rfl (wn rfl) rfl (t_callx (vs := [.string (bs x55.Country)]) (cs := []) [] rfl Try.call44 rfl (topo_isCountry_ok x55.Country  hr60) showsX_nil rfl (.inl rfl)) ?_
     rintro _ _ ⟨_, ⟨rfl, rfl⟩, rfl⟩
     refine ⟨(ss (ss (ss (ss (ss (ss (ss (sn)))))))), ?_⟩
     refine any_y 3 rfl (by kernel_rfl) (by kernel_rfl) (by kernel_rfl) (ss (ss (ss (ss (ss (ss (ss (sn)))))))) (wn rfl) rfl (y_not rfl) ?_
     refine any_y 4 rfl (by kernel_rfl) (by kernel_rfl) (by kernel_rfl) (ss (ss (ss (ss (ss (ss (ss (sn)))))))) (wn rfl) rfl (y_move rfl) ?_
     obtain ⟨o62, h, ho63⟩ := bindJ_some h
     refine any_cut #[true, true, true, true, true, true, true, true, true, true, true, true, true, true, true, true, true, true, true, true] 0 Bool (fun σ => [(1, boxP b1 0), (3, .map (some v4)), (69, m_0_Routesv), (70, .int .i64 (m_0.Routes.length : Int)), (71, .int .i64 s_45), (13, boxP b57 0), (95, .bool σ)]) (fun σ => [box b1 [m_0_Hubsv, m_0_Routesv], ro m_0_Hubsv 3 (m_0.Hubs.map S_api_Hub.enc), nro m_0_Routesv NC_api_Route_82 m_0.Routes, mapis v4 (mcells (fun n : Int => Value.int .i64 n) (fun n : Int => Value.int .i64 n) r2), atc m_0_Routesv (s_45.toNat * 2) [.string (bs x55.Country), g56], ro g56 1 (x55.Sites.map (eInt .i64)), box b57 [.string (bs x55.Country), g56]]) (fun σ => o62 = .go σ) (fun hL65 => ?_) ?_
     ·refine any_split 80 (!r59) rfl (fun hg66 => ?_) (fun hg66 => ?_)
      ·replace h := cond_t h hg66
       refine any_no 5 rfl (by kernel_rfl) (by kernel_rfl) (by kernel_rfl) (ss (ss (ss (ss (ss (ss (ss (sn)))))))) 4 false 80 rfl rfl rfl rfl rfl ?_
       refine any_no 6 rfl (by kernel_rfl) (by kernel_rfl) (by kernel_rfl) (ss (ss (ss (ss (ss (ss (ss (sn)))))))) 4 false 80 rfl rfl rfl rfl rfl ?_
       refine any_no 7 rfl (by kernel_rfl) (by kernel_rfl) (by kernel_rfl) (ss (ss (ss (ss (ss (ss (ss (sn)))))))) 4 false 80 rfl rfl rfl rfl rfl ?_
       refine any_un 8 rfl (by kernel_rfl) (by kernel_rfl) (by kernel_rfl) (ss (ss (ss (ss (ss (ss (ss (sn)))))))) 7 true 83 rfl rfl rfl rfl rfl ?_
       refine any_un 9 rfl (by kernel_rfl) (by kernel_rfl) (by kernel_rfl) (ss (ss (ss (ss (ss (ss (ss (sn)))))))) 7 true 83 rfl rfl rfl rfl rfl ?_
       refine any_un 10 rfl (by kernel_rfl) (by kernel_rfl) (by kernel_rfl) (ss (ss (ss (ss (ss (ss (ss (sn)))))))) 7 true 83 rfl rfl rfl rfl rfl ?_
       refine any_un 11 rfl (by kernel_rfl) (by kernel_rfl) (by kernel_rfl) (ss (ss (ss (ss (ss (ss (ss (sn)))))))) 7 true 83 rfl rfl rfl rfl rfl ?_
       refine any_un 12 rfl (by kernel_rfl) (by kernel_rfl) (by kernel_rfl) (ss (ss (ss (ss (ss (ss (ss (sn)))))))) 7 true 83 rfl rfl rfl rfl rfl ?_
       refine any_un 13 rfl (by kernel_rfl) (by kernel_rfl) (by kernel_rfl) (ss (ss (ss (ss (ss (ss (ss (sn)))))))) 7 true 83 rfl rfl rfl rfl rfl ?_
       refine any_un 14 rfl (by kernel_rfl) (by kernel_rfl) (by kernel_rfl) (ss (ss (ss (ss (ss (ss (ss (sn)))))))) 7 true 83 rfl rfl rfl rfl rfl ?_
       refine any_un 15 rfl (by kernel_rfl) (by kernel_rfl) (by kernel_rfl) (ss (ss (ss (ss (ss (ss (ss (sn)))))))) 7 true 83 rfl rfl rfl rfl rfl ?_
       refine any_un 16 rfl (by kernel_rfl) (by kernel_rfl) (by kernel_rfl) (ss (ss (ss (ss (ss (ss (ss (sn)))))))) 7 true 83 rfl rfl rfl rfl rfl ?_
       refine any_un 17 rfl (by kernel_rfl) (by kernel_rfl) (by kernel_rfl) (ss (ss (ss (ss (ss (ss (ss (sn)))))))) 7 true 83 rfl rfl rfl rfl rfl ?_
       refine any_no 18 rfl (by kernel_rfl) (by kernel_rfl) (by kernel_rfl) (ss (ss (ss (ss (ss (ss (ss (sn)))))))) 4 false 80 rfl rfl rfl rfl rfl ?_
       refine any_y 19 rfl (by kernel_rfl) (by kernel_rfl) (by kernel_rfl) (ss (ss (ss (ss (ss (ss (ss (sn)))))))) (wn rfl) rfl (y_pick (b := true) rfl rfl) ?_
       obtain rfl := some_eq h
       exact any_weak [(1, boxP b1 0), (3, .map (some v4)), (69, m_0_Routesv), (70, .int .i64 (m_0.Routes.length : Int)), (71, .int .i64 s_45), (13, boxP b57 0), (95, .bool true)] [0, 1, 2, 3, 4, 5, 6] [box b1 [m_0_Hubsv, m_0_Routesv], ro m_0_Hubsv 3 (m_0.Hubs.map S_api_Hub.enc), nro m_0_Routesv NC_api_Route_82 m_0.Routes, mapis v4 (mcells (fun n : Int => Value.int .i64 n) (fun n : Int => Value.int .i64 n) r2), atc m_0_Routesv (s_45.toNat * 2) [.string (bs x55.Country), g56], ro g56 1 (x55.Sites.map (eInt .i64)), box b57 [.string (bs x55.Country), g56]] (by kernel_rfl) (qv7 rfl rfl rfl rfl rfl rfl rfl) (by decide) rfl (hL65 true rfl)
      ·replace h := cond_f h hg66
       refine any_y 5 rfl (by kernel_rfl) (by kernel_rfl) (by kernel_rfl) (ss (ss (ss (ss (ss (ss (ss (sn)))))))) (wg 4 false 80 rfl rfl rfl rfl) rfl (y_move rfl) ?_
       refine any_y 6 rfl (by kernel_rfl) (by kernel_rfl) (by kernel_rfl) (ss (ss (ss (ss (ss (ss (ss (sn)))))))) (wg 4 false 80 rfl rfl rfl rfl) rfl (y_gtr rfl rfl) ?_
       refine any_y 7 rfl (by kernel_rfl) (by kernel_rfl) (by kernel_rfl) (ss (ss (ss (ss (ss (ss (ss (sn)))))))) (wg 4 false 80 rfl rfl rfl rfl) rfl (y_move rfl) ?_
       obtain ⟨o68, h, ho69⟩ := bindJ_some h
       refine any_cut #[true, true, true, true, true, true, true, true, true, true, true, true, true, true, true, true, true, true, true, false] 1 Bool (fun σ => [(1, boxP b1 0), (3, .map (some v4)), (69, m_0_Routesv), (70, .int .i64 (m_0.Routes.length : Int)), (71, .int .i64 s_45), (13, boxP b57 0), (80, .bool false), (94, .bool σ)]) (fun σ => [box b1 [m_0_Hubsv, m_0_Routesv], ro m_0_Hubsv 3 (m_0.Hubs.map S_api_Hub.enc), nro m_0_Routesv NC_api_Route_82 m_0.Routes, mapis v4 (mcells (fun n : Int => Value.int .i64 n) (fun n : Int => Value.int .i64 n) r2), atc m_0_Routesv (s_45.toNat * 2) [.string (bs x55.Country), g56], ro g56 1 (x55.Sites.map (eInt .i64)), box b57 [.string (bs x55.Country), g56]]) (fun σ => o68 = .go σ) (fun hL71 => ?_) ?_
       ·refine any_split 83 (decide (0 < s_45)) rfl (fun hg72 => ?_) (fun hg72 => ?_)
        ·replace h := cond_t h hg72
         refine any_y 8 rfl (by kernel_rfl) (by kernel_rfl) (by kernel_rfl) (ss (ss (ss (ss (ss (ss (ss (sn)))))))) (wg 7 true 83 rfl rfl rfl rfl) rfl (y_fieldAddr_box (sz := 0) Try.runUnderlying82 rfl Try.sizeOf9 rfl) ?_
         refine any_y 9 rfl (by kernel_rfl) (by kernel_rfl) (by kernel_rfl) (ss (ss (ss (ss (ss (ss (ss (sn)))))))) (wg 7 true 83 rfl rfl rfl rfl) rfl (y_load_box 6 Try.isAgg9 rfl rfl rfl) ?_
         refine any_y 10 rfl (by kernel_rfl) (by kernel_rfl) (by kernel_rfl) (ss (ss (ss (ss (ss (ss (ss (sn)))))))) (wg 7 true 83 rfl rfl rfl rfl) rfl (y_fieldAddr_box (sz := 0) Try.runUnderlying25 rfl Try.sizeOf23 rfl) ?_
         refine any_y 11 rfl (by kernel_rfl) (by kernel_rfl) (by kernel_rfl) (ss (ss (ss (ss (ss (ss (ss (sn)))))))) (wg 7 true 83 rfl rfl rfl rfl) rfl (y_load_box 0 Try.isAgg23 rfl rfl rfl) ?_
         refine any_y 12 rfl (by kernel_rfl) (by kernel_rfl) (by kernel_rfl) (ss (ss (ss (ss (ss (ss (ss (sn)))))))) (wg 7 true 83 rfl rfl rfl rfl) rfl (y_move rfl) ?_
         refine any_y 13 rfl (by kernel_rfl) (by kernel_rfl) (by kernel_rfl) (ss (ss (ss (ss (ss (ss (ss (sn)))))))) (wg 7 true 83 rfl rfl rfl rfl) rfl (y_sub rfl rfl) ?_
         obtain ⟨x73, hzx73, hlx73, hxx73, h⟩ := idx_some h
         refine any_y 14 rfl (by kernel_rfl) (by kernel_rfl) (by kernel_rfl) (ss (ss (ss (ss (ss (ss (ss (sn)))))))) (wg 7 true 83 rfl rfl rfl rfl) rfl (y_indexAddrN (kd := .i64) (i := (IntKind.i64.wrap (s_45 - 1))) 2 Try.runUnderlying23 Try.sizeOf82 rfl rfl rfl readsN_ro hzx73 hlx73) ?_
         refine any_ex (exAt (C := NC_api_Route_82) (i := ((IntKind.i64.wrap (s_45 - 1))).toNat) 2 rfl hxx73) ?_
         rintro g74
         refine any_y 15 rfl (by kernel_rfl) (by kernel_rfl) (by kernel_rfl) (ss (ss (ss (ss (ss (ss (ss (sn)))))))) (wg 7 true 83 rfl rfl rfl rfl) rfl (y_fieldAddr_elem (sz := 0) Try.runUnderlying82 rfl Try.sizeOf9 rfl) ?_
         refine any_all [16] (by kernel_rfl) rfl (anyo_cons ?_ anyo_nil)
         refine any_ty rfl (wg 7 true 83 rfl rfl rfl rfl) rfl (y_load_at (n := ((IntKind.i64.wrap (s_45 - 1))).toNat * 2) (j := 0) 7 Try.isAgg9 rfl rfl rfl) ⟨(ss (ss (ss (ss (ss (ss (ss (sn)))))))), ?_⟩
         refine any_y 17 rfl (by kernel_rfl) (by kernel_rfl) (by kernel_rfl) (ss (ss (ss (ss (ss (ss (ss (sn)))))))) (wg 7 true 83 rfl rfl rfl rfl) rfl (y_sleq rfl rfl) ?_
         refine any_y 18 rfl (by kernel_rfl) (by kernel_rfl) (by kernel_rfl) (ss (ss (ss (ss (ss (ss (ss (sn)))))))) (wg 4 false 80 rfl rfl rfl rfl) rfl (y_pick (b := true) rfl rfl) ?_
         obtain rfl := some_eq h
         exact any_weak [(1, boxP b1 0), (3, .map (some v4)), (69, m_0_Routesv), (70, .int .i64 (m_0.Routes.length : Int)), (71, .int .i64 s_45), (13, boxP b57 0), (80, .bool false), (94, .bool (strLt x55.Country x73.Country || decide (x55.Country = x73.Country)))] [0, 1, 2, 3, 4, 5, 6] [box b1 [m_0_Hubsv, m_0_Routesv], ro m_0_Hubsv 3 (m_0.Hubs.map S_api_Hub.enc), nro m_0_Routesv NC_api_Route_82 m_0.Routes, mapis v4 (mcells (fun n : Int => Value.int .i64 n) (fun n : Int => Value.int .i64 n) r2), atc m_0_Routesv (s_45.toNat * 2) [.string (bs x55.Country), g56], ro g56 1 (x55.Sites.map (eInt .i64)), box b57 [.string (bs x55.Country), g56]] (by kernel_rfl) (qv8 rfl rfl rfl rfl rfl rfl rfl rfl) (by decide) rfl (hL71 (strLt x55.Country x73.Country || decide (x55.Country = x73.Country)) rfl)
        ·replace h := cond_f h hg72
         refine any_no 8 rfl (by kernel_rfl) (by kernel_rfl) (by kernel_rfl) (ss (ss (ss (ss (ss (ss (ss (sn)))))))) 7 true 83 rfl rfl rfl rfl rfl ?_
         refine any_no 9 rfl (by kernel_rfl) (by kernel_rfl) (by kernel_rfl) (ss (ss (ss (ss (ss (ss (ss (sn)))))))) 7 true 83 rfl rfl rfl rfl rfl ?_
         refine any_no 10 rfl (by kernel_rfl) (by kernel_rfl) (by kernel_rfl) (ss (ss (ss (ss (ss (ss (ss (sn)))))))) 7 true 83 rfl rfl rfl rfl rfl ?_
         refine any_no 11 rfl (by kernel_rfl) (by kernel_rfl) (by kernel_rfl) (ss (ss (ss (ss (ss (ss (ss (sn)))))))) 7 true 83 rfl rfl rfl rfl rfl ?_
         refine any_no 12 rfl (by kernel_rfl) (by kernel_rfl) (by kernel_rfl) (ss (ss (ss (ss (ss (ss (ss (sn)))))))) 7 true 83 rfl rfl rfl rfl rfl ?_
         refine any_no 13 rfl (by kernel_rfl) (by kernel_rfl) (by kernel_rfl) (ss (ss (ss (ss (ss (ss (ss (sn)))))))) 7 true 83 rfl rfl rfl rfl rfl ?_
         refine any_no 14 rfl (by kernel_rfl) (by kernel_rfl) (by kernel_rfl) (ss (ss (ss (ss (ss (ss (ss (sn)))))))) 7 true 83 rfl rfl rfl rfl rfl ?_
         refine any_no 15 rfl (by kernel_rfl) (by kernel_rfl) (by kernel_rfl) (ss (ss (ss (ss (ss (ss (ss (sn)))))))) 7 true 83 rfl rfl rfl rfl rfl ?_
         refine any_no 16 rfl (by kernel_rfl) (by kernel_rfl) (by kernel_rfl) (ss (ss (ss (ss (ss (ss (ss (sn)))))))) 7 true 83 rfl rfl rfl rfl rfl ?_
         refine any_no 17 rfl (by kernel_rfl) (by kernel_rfl) (by kernel_rfl) (ss (ss (ss (ss (ss (ss (ss (sn)))))))) 7 true 83 rfl rfl rfl rfl rfl ?_
         refine any_y 18 rfl (by kernel_rfl) (by kernel_rfl) (by kernel_rfl) (ss (ss (ss (ss (ss (ss (ss (sn)))))))) (wg 4 false 80 rfl rfl rfl rfl) rfl (y_pick (b := false) rfl rfl) ?_
         obtain rfl := some_eq h
         exact any_weak [(1, boxP b1 0), (3, .map (some v4)), (69, m_0_Routesv), (70, .int .i64 (m_0.Routes.length : Int)), (71, .int .i64 s_45), (13, boxP b57 0), (80, .bool false), (94, .bool false)] [0, 1, 2, 3, 4, 5, 6] [box b1 [m_0_Hubsv, m_0_Routesv], ro m_0_Hubsv 3 (m_0.Hubs.map S_api_Hub.enc), nro m_0_Routesv NC_api_Route_82 m_0.Routes, mapis v4 (mcells (fun n : Int => Value.int .i64 n) (fun n : Int => Value.int .i64 n) r2), atc m_0_Routesv (s_45.toNat * 2) [.string (bs x55.Country), g56], ro g56 1 (x55.Sites.map (eInt .i64)), box b57 [.string (bs x55.Country), g56]] (by kernel_rfl) (qv8 rfl rfl rfl rfl rfl rfl rfl rfl) (by decide) rfl (hL71 false rfl)
       rintro b67 hj
       obtain rfl : o68 = _ := hj
       replace h := after_go ho69
       clear ho69
       refine any_y 19 rfl (by kernel_rfl) (by kernel_rfl) (by kernel_rfl) (ss (ss (ss (ss (ss (ss (ss (sn)))))))) (wn rfl) rfl (y_pick (b := false) rfl rfl) ?_
       obtain rfl := some_eq h
       exact any_weak [(1, boxP b1 0), (3, .map (some v4)), (69, m_0_Routesv), (70, .int .i64 (m_0.Routes.length : Int)), (71, .int .i64 s_45), (13, boxP b57 0), (95, .bool b67)] [0, 1, 2, 3, 4, 5, 6] [box b1 [m_0_Hubsv, m_0_Routesv], ro m_0_Hubsv 3 (m_0.Hubs.map S_api_Hub.enc), nro m_0_Routesv NC_api_Route_82 m_0.Routes, mapis v4 (mcells (fun n : Int => Value.int .i64 n) (fun n : Int => Value.int .i64 n) r2), atc m_0_Routesv (s_45.toNat * 2) [.string (bs x55.Country), g56], ro g56 1 (x55.Sites.map (eInt .i64)), box b57 [.string (bs x55.Country), g56]] (by kernel_rfl) (qv7 rfl rfl rfl rfl rfl rfl rfl) (by decide) rfl (hL65 b67 rfl)
     rintro b61 hj
     obtain rfl : o62 = _ := hj
     replace h := after_go ho63
     clear ho63
     refine any_nil (by kernel_rfl) ?_
     refine goes_code ?_
     refine run_cond b61 rfl (fun hc75 => ?_) (fun hc75 => ?_)
     ·replace h := cond_t h hc75
      refine run_seq ?_
      refine run_region' ?_
      refine oy rfl rfl (y_assign rfl) ?_
      refine ops_nil ?_
      refine goes_code ?_
      refine run_ret ?_
      obtain rfl := some_eq h
      obtain rfl := after_stop ho52
      skip
      obtain rfl := hstop48 _ rfl
      skip
      obtain rfl := after_stop ho42
      refine fin_slots [2] [.bool false] [] [] Try.results17 rfl (by decide) rfl ?_
      exact ⟨rfl, rfl⟩
     ·replace h := cond_f h hc75
      refine run_skip ?_
      refine goes_code ?_
      refine run_seq ?_
      refine run_region' ?_
      refine oy rfl rfl (y_fieldAddr_box (sz := 0) Try.runUnderlying82 rfl Try.sizeOf35 rfl) ?_
      refine oy rfl rfl (y_load_box 6 Try.isAgg35 rfl rfl rfl) ?_
      refine oy rfl rfl ((y_len 5 rfl Try.runUnderlying35 rfl rfl reads_ro).to (v_len (eInt .i64) _)) ?_
      refine oy rfl rfl (y_move rfl) ?_
      refine ops_nil ?_
      refine goes_code ?_
      refine run_block ?_
      refine run_iter (step := topo_ValidMap_L3 n r2 x55) (n := n) (s0 := 0) h (G := Unit) () (fun σ γ => [(1, boxP b1 0), (3, .map (some v4)), (13, boxP b57 0), (69, m_0_Routesv), (70, .int .i64 (m_0.Routes.length : Int)), (71, .int .i64 s_45), (97, g56), (98, .int .i64 (x55.Sites.length : Int)), (99, .int .i64 σ)]) (fun σ γ => [box b1 [m_0_Hubsv, m_0_Routesv], ro m_0_Hubsv 3 (m_0.Hubs.map S_api_Hub.enc), nro m_0_Routesv NC_api_Route_82 m_0.Routes, mapis v4 (mcells (fun n : Int => Value.int .i64 n) (fun n : Int => Value.int .i64 n) r2), box b57 [.string (bs x55.Country), g56], ro g56 1 (x55.Sites.map (eInt .i64))]) [0, 1, 2, 3, 6, 5] (qv9 rfl rfl rfl rfl rfl rfl rfl rfl rfl) (by decide) rfl ?_
      rintro s_76 _ o77 h L80 hgo78 hstop79
      change Run _ _ _ (VF.of [(1, boxP b1 0), (3, .map (some v4)), (13, boxP b57 0), (69, m_0_Routesv), (70, .int .i64 (m_0.Routes.length : Int)), (71, .int .i64 s_45), (97, g56), (98, .int .i64 (x55.Sites.length : Int)), (99, .int .i64 s_76)]) [box b1 [m_0_Hubsv, m_0_Routesv], ro m_0_Hubsv 3 (m_0.Hubs.map S_api_Hub.enc), nro m_0_Routesv NC_api_Route_82 m_0.Routes, mapis v4 (mcells (fun n : Int => Value.int .i64 n) (fun n : Int => Value.int .i64 n) r2), box b57 [.string (bs x55.Country), g56], ro g56 1 (x55.Sites.map (eInt .i64))]
      refine run_seq ?_
      refine run_region' ?_
      refine oy rfl rfl (y_lss rfl rfl) ?_
      refine ops_nil ?_
      refine goes_code ?_
      refine run_seq ?_
      refine run_cond (decide (s_76 < (x55.Sites.length : Int))) rfl (fun hc81 => ?_) (fun hc81 => ?_)
      ·replace h := cond_t h hc81
       refine run_skip ?_
       refine goes_code ?_
       refine run_seq ?_
       refine run_block ?_
       refine run_seq ?_
       refine run_region' ?_
       refine oy rfl rfl (y_move rfl) ?_
       obtain ⟨x82, hzx82, hlx82, hxx82, h⟩ := idx_some h
       refine oy rfl rfl (y_indexAddrI (kd := .i64) (i := s_76) 5 Try.runUnderlying35 Try.sizeOf3 rfl rfl rfl reads_ro hzx82 (map_lt hlx82)) ?_
       refine oy rfl rfl (y_load_elem (i := s_76.toNat) 5 Try.isAgg3 rfl rfl reads_ro (map_get hxx82)) ?_
       refine oy rfl rfl (y_assign rfl) ?_
       refine oy rfl rfl (y_assign rfl) ?_
       refine ops_nil ?_
       refine goes_code ?_
       refine run_seq ?_
       refine run_region' ?_
       refine oy rfl rfl (y_move rfl) ?_
       refine oy rfl rfl (y_move rfl) ?_
       refine oy rfl rfl (y_lookup2 (k := x82) (d0 := 0) 3 (key_int .i64) Try.runUnderlying85 Try.runUnderlying3 Try.zeroValue3 rfl rfl rfl) ?_
       refine oy rfl rfl (y_move rfl) ?_
       refine oy rfl rfl (y_extract rfl rfl) ?_
       refine oy rfl rfl (y_extract rfl rfl) ?_
       refine oy rfl rfl (y_assign rfl) ?_
       refine oy rfl rfl (y_assign rfl) ?_
       refine ops_nil ?_
       refine goes_code ?_
       refine run_seq ?_
       refine run_weak [(1, boxP b1 0), (3, .map (some v4)), (13, boxP b57 0), (69, m_0_Routesv), (70, .int .i64 (m_0.Routes.length : Int)), (71, .int .i64 s_45), (97, g56), (98, .int .i64 (x55.Sites.length : Int)), (99, .int .i64 s_76), (14, .int .i64 s_76), (15, .int .i64 x82), (17, .bool ((mget r2 x82).isSome))] [0, 1, 2, 3, 4, 5] [box b1 [m_0_Hubsv, m_0_Routesv], ro m_0_Hubsv 3 (m_0.Hubs.map S_api_Hub.enc), nro m_0_Routesv NC_api_Route_82 m_0.Routes, mapis v4 (mcells (fun n : Int => Value.int .i64 n) (fun n : Int => Value.int .i64 n) r2), box b57 [.string (bs x55.Country), g56], ro g56 1 (x55.Sites.map (eInt .i64))] (qv12 rfl rfl rfl rfl rfl rfl rfl rfl rfl rfl rfl rfl) (by decide) rfl ?_
       refine run_region' ?_
       refine oy rfl rfl (y_move rfl) ?_
       refine oy rfl rfl (y_not rfl) ?_
       refine oy rfl rfl (y_move rfl) ?_
       refine ops_cut 3 (Bool) (fun σ => [(1, boxP b1 0), (3, .map (some v4)), (13, boxP b57 0), (69, m_0_Routesv), (70, .int .i64 (m_0.Routes.length : Int)), (71, .int .i64 s_45), (97, g56), (98, .int .i64 (x55.Sites.length : Int)), (99, .int .i64 s_76), (14, .int .i64 s_76), (15, .int .i64 x82), (115, .bool σ)]) (fun σ => [box b1 [m_0_Hubsv, m_0_Routesv], ro m_0_Hubsv 3 (m_0.Hubs.map S_api_Hub.enc), nro m_0_Routesv NC_api_Route_82 m_0.Routes, mapis v4 (mcells (fun n : Int => Value.int .i64 n) (fun n : Int => Value.int .i64 n) r2), box b57 [.string (bs x55.Country), g56], ro g56 1 (x55.Sites.map (eInt .i64))]) (fun σ => σ = ((!((mget r2 x82).isSome)) || decide (x82 < 0))) (fun L83 hL84 => ?_) ?_
       ·refine ops_split 112 (!((mget r2 x82).isSome)) rfl (fun hg85 => ?_) (fun hg85 => ?_)
        ·skip
         refine ops_no 2 false 112 rfl rfl rfl rfl rfl ?_
         refine ops_no 2 false 112 rfl rfl rfl rfl rfl ?_
         refine oy rfl rfl (y_pick (b := true) rfl rfl) ?_
         refine ops_nil ?_
         exact goes_cut hL84 true [0, 1, 2, 3, 4, 5] (qv12 rfl rfl rfl rfl rfl rfl rfl rfl rfl rfl rfl rfl) (by decide) rfl (by rw [hg85]; simp)
        ·skip
         refine ops_y (wg 2 false 112 rfl rfl rfl rfl) rfl (y_move rfl) ?_
         refine ops_y (wg 2 false 112 rfl rfl rfl rfl) rfl (y_lss rfl rfl) ?_
         refine oy rfl rfl (y_pick (b := false) rfl rfl) ?_
         refine ops_nil ?_
         exact goes_cut hL84 (decide (x82 < 0)) [0, 1, 2, 3, 4, 5] (qv12 rfl rfl rfl rfl rfl rfl rfl rfl rfl rfl rfl rfl) (by decide) rfl (by rw [hg85]; simp)
       rintro _ rfl
       refine oy rfl rfl (y_move rfl) ?_
       obtain ⟨o87, h, ho88⟩ := bindJ_some h
       refine ops_cut 7 (Bool) (fun σ => [(1, boxP b1 0), (3, .map (some v4)), (13, boxP b57 0), (69, m_0_Routesv), (70, .int .i64 (m_0.Routes.length : Int)), (71, .int .i64 s_45), (97, g56), (98, .int .i64 (x55.Sites.length : Int)), (99, .int .i64 s_76), (123, .bool σ)]) (fun σ => [box b1 [m_0_Hubsv, m_0_Routesv], ro m_0_Hubsv 3 (m_0.Hubs.map S_api_Hub.enc), nro m_0_Routesv NC_api_Route_82 m_0.Routes, mapis v4 (mcells (fun n : Int => Value.int .i64 n) (fun n : Int => Value.int .i64 n) r2), box b57 [.string (bs x55.Country), g56], ro g56 1 (x55.Sites.map (eInt .i64))]) (fun σ => o87 = .go σ) (fun L89 hL90 => ?_) ?_
       ·refine ops_split 116 ((!((mget r2 x82).isSome)) || decide (x82 < 0)) rfl (fun hg91 => ?_) (fun hg91 => ?_)
        ·replace h := cond_t h hg91
         refine ops_no 6 false 116 rfl rfl rfl rfl rfl ?_
         refine ops_no 6 false 116 rfl rfl rfl rfl rfl ?_
         refine ops_no 6 false 116 rfl rfl rfl rfl rfl ?_
         refine ops_no 6 false 116 rfl rfl rfl rfl rfl ?_
         refine ops_no 6 false 116 rfl rfl rfl rfl rfl ?_
         refine ops_no 6 false 116 rfl rfl rfl rfl rfl ?_
         refine oy rfl rfl (y_pick (b := true) rfl rfl) ?_
         refine ops_nil ?_
         obtain rfl := some_eq h
         exact goes_cut hL90 true [0, 1, 2, 3, 4, 5] (qv10 rfl rfl rfl rfl rfl rfl rfl rfl rfl rfl) (by decide) rfl rfl
        ·replace h := cond_f h hg91
         refine ops_y (wg 6 false 116 rfl rfl rfl rfl) rfl (y_fieldAddr_box (sz := 0) Try.runUnderlying82 rfl Try.sizeOf35 rfl) ?_
         refine ops_y (wg 6 false 116 rfl rfl rfl rfl) rfl (y_load_box 4 Try.isAgg35 rfl rfl rfl) ?_
         refine ops_y (wg 6 false 116 rfl rfl rfl rfl) rfl (y_move rfl) ?_
         obtain ⟨hb92, h⟩ := need_some h
         refine ops_y (wg 6 false 116 rfl rfl rfl rfl) rfl (y_slice (l := 0) (r := s_76) 5 Try.runUnderlying35 Try.sizeOf3 rfl rfl reads_ro bi0 (bi1 (kd := .i64) rfl) hb92.1 hb92.2.1 (map_len_le hb92.2.2)) ?_
         refine ops_turn (turn_sub (l := (0 : Int).toNat) (r := s_76.toNat) 5 rfl (by omega) (map_toNat_le hb92.2.2)) ?_
         refine ops_turn (retell 6 (g := ro (subS g56 1 ((0 : Int).toNat) s_76.toNat) 1 ((x55.Sites.take s_76.toNat).map (eInt .i64))) rfl (congrArg (ro _ _) (sub_hi _ _ _))) ?_
         refine ops_y (wg 6 false 116 rfl rfl rfl rfl) rfl (y_move rfl) ?_
         obtain ⟨r93, hr94, h⟩ := obind_some h
         refine ops_t (wg 6 false 116 rfl rfl rfl rfl) rfl (t_callx (vs := [(subS g56 1 ((0 : Int).toNat) s_76.toNat), .int .i64 x82]) (cs := []) [(6, 0)] rfl Try.call45 rfl (slices_Contains_int_int_45_ok n (x55.Sites.take s_76.toNat) x82 (subS g56 1 ((0 : Int).toNat) s_76.toNat) hr94) (showsX_view 6 rfl views_ro showsX_nil) rfl (.inl rfl)) ?_
         rintro _ _ ⟨_, ⟨rfl, rfl⟩, rfl⟩
         refine oy rfl rfl (y_pick (b := false) rfl rfl) ?_
         refine ops_nil ?_
         obtain rfl := some_eq h
         exact goes_cut hL90 r93 [0, 1, 2, 3, 4, 5] (qv10 rfl rfl rfl rfl rfl rfl rfl rfl rfl rfl) (by decide) rfl rfl
       rintro b86 hj
       obtain rfl : o87 = _ := hj
       replace h := after_go ho88
       clear ho88
       refine ops_nil ?_
       refine goes_code ?_
       refine run_cond b86 rfl (fun hc95 => ?_) (fun hc95 => ?_)
       ·replace h := cond_t h hc95
        refine run_seq ?_
        refine run_region' ?_
        refine oy rfl rfl (y_assign rfl) ?_
        refine ops_nil ?_
        refine goes_code ?_
        refine run_ret ?_
        obtain rfl := some_eq h
        obtain rfl := hstop79 _ rfl
        skip
        obtain rfl := after_stop ho52
        skip
        obtain rfl := hstop48 _ rfl
        skip
        obtain rfl := after_stop ho42
        refine fin_slots [2] [.bool false] [] [] Try.results17 rfl (by decide) rfl ?_
        exact ⟨rfl, rfl⟩
       ·replace h := cond_f h hc95
        refine run_skip ?_
        refine goes_blk ?_
        refine goes_code ?_
        refine run_region' ?_
        refine oy rfl rfl (y_add rfl rfl) ?_
        refine oy rfl rfl (y_move rfl) ?_
        refine ops_nil ?_
        obtain rfl := some_eq h
        exact goes_iter hgo78 (IntKind.i64.wrap (s_76 + 1)) () [0, 1, 2, 3, 4, 5] rfl (qv9 rfl rfl rfl rfl rfl rfl rfl rfl rfl) (by decide) rfl
      ·replace h := cond_f h hc81
       refine run_exit _ rfl ?_
       refine goes_blk ?_
       obtain rfl := some_eq h
       obtain rfl := hstop79 _ rfl
       exact goes_cut hL53 ((), ()) [0, 1, 2, 3] (qv5 rfl rfl rfl rfl rfl) (by decide) rfl rfl
    rintro ⟨_, _⟩ hj
    obtain rfl : o51 = _ := hj
    replace h := after_go ho52
    clear ho52
    change Run _ _ _ (VF.of [(1, boxP b1 0), (3, .map (some v4)), (69, m_0_Routesv), (70, .int .i64 (m_0.Routes.length : Int)), (71, .int .i64 s_45)]) [box b1 [m_0_Hubsv, m_0_Routesv], ro m_0_Hubsv 3 (m_0.Hubs.map S_api_Hub.enc), nro m_0_Routesv NC_api_Route_82 m_0.Routes, mapis v4 (mcells (fun n : Int => Value.int .i64 n) (fun n : Int => Value.int .i64 n) r2)]
    refine run_region' ?_
    refine oy rfl rfl (y_add rfl rfl) ?_
    refine oy rfl rfl (y_move rfl) ?_
    refine ops_nil ?_
    obtain rfl := some_eq h
    exact goes_iter hgo47 (IntKind.i64.wrap (s_45 + 1)) () [0, 1, 2, 3] rfl (qv5 rfl rfl rfl rfl rfl) (by decide) rfl
   ·replace h := cond_f h hc50
    refine run_exit _ rfl ?_
    obtain rfl := some_eq h
    obtain rfl := hstop48 _ rfl
    exact goes_cut hL43 ((), ()) [] vnil (by decide) rfl rfl
  rintro ⟨_, _⟩ hj
  obtain rfl : o41 = _ := hj
  replace h := after_go ho42
  clear ho42
  change Run _ _ _ (VF.of []) []
  refine run_seq ?_
  refine run_region' ?_
  refine oy rfl rfl (y_assign rfl) ?_
  refine ops_nil ?_
  refine goes_code ?_
  refine run_ret ?_
  obtain rfl := some_eq h
  refine fin_slots [2] [.bool true] [] [] Try.results17 rfl (by decide) rfl ?_
  exact ⟨rfl, rfl⟩

def topo_Entry_1_36 (r_0 : S_api_Route) (a_1 : (List UInt8)) : Option (Bool) :=
 some (decide (r_0.Country = a_1))
theorem topo_Entry_1_36_ok (r_0 : S_api_Route) (a_1 : (List UInt8)) (r_0_Sitesv : Value) (a_1b : Nat) {r : Bool} (h : topo_Entry_1_36 r_0 a_1 = some r) :
  Meets Try.prog 36 [.agg #[.string (bs r_0.Country), r_0_Sitesv], boxP a_1b 0] [ro r_0_Sitesv 1 (r_0.Sites.map (eInt .i64)), box a_1b [.string (bs a_1)]] (fun v G => v = .bool r ∧ G = [box a_1b [.string (bs a_1)]]) := by
 refine fn_of_run Try.func36 rfl Try.ntmps36 rfl (fun w0 o0 => ?_)
 refine run_seq ?_
 refine run_region' ?_
 refine ot rfl rfl (t_box rfl) ?_
 rintro _ _ ⟨b1, rfl, rfl⟩
 refine oy rfl rfl (y_assign rfl) ?_
 refine ops_nil ?_
 refine goes_code ?_
 refine run_seq ?_
 refine run_region' ?_
 refine oy rfl rfl (y_fieldAddr_box (sz := 0) Try.runUnderlying82 rfl Try.sizeOf9 rfl) ?_
 refine oy rfl rfl (y_load_box 2 Try.isAgg9 rfl rfl rfl) ?_
 refine oy rfl rfl (y_load_box 1 Try.isAgg9 rfl rfl rfl) ?_
 refine oy rfl rfl (y_seql rfl rfl) ?_
 refine oy rfl rfl (y_assign rfl) ?_
 refine ops_nil ?_
 refine goes_code ?_
 refine run_ret ?_
 obtain rfl := some_eq h
 refine fin_slots [3] [.bool (decide (r_0.Country = a_1))] [1] [box a_1b [.string (bs a_1)]] Try.results36 rfl (by decide) rfl ?_
 exact ⟨rfl, rfl⟩

def slices_IndexFunc_weirgate_api_Route_weirgate_api_Route_35_L1 (s_0 : (List S_api_Route)) (f_1_0 : (List UInt8)) : (Int) → Option (Lp (Int) (Lp (Unit) (Int))) :=
 fun s_5 =>
  cond (decide (s_5 < (s_0.length : Int)))
   (idx s_0 s_5 fun x11 =>
   obind (topo_Entry_1_36 x11 f_1_0) fun r13 =>
   cond r13
    (some (.stop (.stop s_5)))
    (some (.go (IntKind.i64.wrap (s_5 + 1)))))
   (some (.stop (.go ())))
def slices_IndexFunc_weirgate_api_Route_weirgate_api_Route_35 (n : Nat) (s_0 : (List S_api_Route)) (f_1_0 : (List UInt8)) : Option (Int) :=
 bindJ (S := Unit)
  (iter (slices_IndexFunc_weirgate_api_Route_weirgate_api_Route_35_L1 s_0 f_1_0) n 0)
 (fun _ =>
  some (-1))
theorem slices_IndexFunc_weirgate_api_Route_weirgate_api_Route_35_ok (n : Nat) (s_0 : (List S_api_Route)) (f_1_0 : (List UInt8)) (s_0v : Value) (f_1_0b : Nat) {r : Int} (h : slices_IndexFunc_weirgate_api_Route_weirgate_api_Route_35 n s_0 f_1_0 = some r) :
  Meets Try.prog 35 [s_0v, .func (.func 36) #[] #[boxP f_1_0b 0]] [nro s_0v NC_api_Route_82 s_0, box f_1_0b [.string (bs f_1_0)]] (fun v G => v = .int .i64 r ∧ G = [box f_1_0b [.string (bs f_1_0)]]) := by
 refine fn_of_run Try.func35 rfl Try.ntmps35 rfl (fun w0 o0 => ?_)
 refine run_seq ?_
 refine run_region' ?_
 refine oy rfl rfl (y_assign rfl) ?_
 refine ops_nil ?_
 refine goes_code ?_
 obtain ⟨o1, h, ho2⟩ := bindJ_some h
 refine run_cut ((Unit) × (Unit)) (fun σ => []) (fun σ => [box f_1_0b [.string (bs f_1_0)]]) (fun σ => o1 = .go σ.1) (fun L4 hL3 => ?_) ?_
 ·
  refine run_seq ?_
  refine run_region' ?_
  refine oy rfl rfl (y_move rfl) ?_
  refine oy rfl rfl (y_lenN 0 rfl Try.runUnderlying23 rfl rfl readsN_ro) ?_
  refine oy rfl rfl (y_move rfl) ?_
  refine ops_nil ?_
  refine goes_code ?_
  refine run_block ?_
  refine run_iter (step := slices_IndexFunc_weirgate_api_Route_weirgate_api_Route_35_L1 s_0 f_1_0) (n := n) (s0 := 0) h (G := Unit) () (fun σ γ => [(0, s_0v), (1, .func (.func 36) #[] #[boxP f_1_0b 0]), (7, .int .i64 (s_0.length : Int)), (8, .int .i64 σ)]) (fun σ γ => [nro s_0v NC_api_Route_82 s_0, box f_1_0b [.string (bs f_1_0)]]) [0, 1] (qv4 rfl rfl rfl rfl) (by decide) rfl ?_
  rintro s_5 _ o6 h L9 hgo7 hstop8
  change Run _ _ _ (VF.of [(0, s_0v), (1, .func (.func 36) #[] #[boxP f_1_0b 0]), (7, .int .i64 (s_0.length : Int)), (8, .int .i64 s_5)]) [nro s_0v NC_api_Route_82 s_0, box f_1_0b [.string (bs f_1_0)]]
  refine run_seq ?_
  refine run_region' ?_
  refine oy rfl rfl (y_lss rfl rfl) ?_
  refine ops_nil ?_
  refine goes_code ?_
  refine run_seq ?_
  refine run_cond (decide (s_5 < (s_0.length : Int))) rfl (fun hc10 => ?_) (fun hc10 => ?_)
  ·replace h := cond_t h hc10
   refine run_skip ?_
   refine goes_code ?_
   refine run_seq ?_
   refine run_block ?_
   refine run_seq ?_
   refine run_region' ?_
   refine oy rfl rfl (y_move rfl) ?_
   refine oy rfl rfl (y_assign rfl) ?_
   refine ops_nil ?_
   refine goes_code ?_
   refine run_seq ?_
   refine run_region' ?_
   refine oy rfl rfl (y_move rfl) ?_
   refine oy rfl rfl (y_move rfl) ?_
   refine oy rfl rfl (y_move rfl) ?_
   obtain ⟨x11, hzx11, hlx11, hxx11, h⟩ := idx_some h
   refine oy rfl rfl (y_indexAddrN (kd := .i64) (i := s_5) 0 Try.runUnderlying23 Try.sizeOf82 rfl rfl rfl readsN_ro hzx11 hlx11) ?_
   refine ops_ex (exAt (C := NC_api_Route_82) (i := s_5.toNat) 0 rfl hxx11) ?_
   rintro g12
   refine oy rfl rfl (y_load_atagg (n := s_5.toNat * 2) (j := 0) (c := [.string (bs x11.Country), g12]) 2 Try.isAgg82 Try.sizeOf82 rfl rfl rfl) ?_
   obtain ⟨r13, hr14, h⟩ := obind_some h
   refine ot rfl rfl (t_callx (vs := [.agg #[.string (bs x11.Country), g12]]) (cs := [boxP f_1_0b 0]) [(3, 0), (1, 2)] rfl Try.call36 rfl (topo_Entry_1_36_ok x11 f_1_0 g12 f_1_0b hr14) (showsX_view 3 rfl views_ro (showsX_lend 1 rfl showsX_nil)) rfl (.inl rfl)) ?_
   rintro _ _ ⟨_, ⟨rfl, rfl⟩, rfl⟩
   refine ops_nil ?_
   refine goes_code ?_
   refine run_cond r13 rfl (fun hc15 => ?_) (fun hc15 => ?_)
   ·replace h := cond_t h hc15
    refine run_seq ?_
    refine run_weak [(5, .int .i64 s_5)] [4] [box f_1_0b [.string (bs f_1_0)]] (qv1 rfl) (by decide) rfl ?_
    refine run_region' ?_
    refine oy rfl rfl (y_move rfl) ?_
    refine oy rfl rfl (y_assign rfl) ?_
    refine ops_nil ?_
    refine goes_code ?_
    refine run_ret ?_
    obtain rfl := some_eq h
    obtain rfl := hstop8 _ rfl
    skip
    obtain rfl := after_stop ho2
    refine fin_slots [4] [.int .i64 s_5] [0] [box f_1_0b [.string (bs f_1_0)]] Try.results35 rfl (by decide) rfl ?_
    exact ⟨rfl, rfl⟩
   ·replace h := cond_f h hc15
    refine run_skip ?_
    refine goes_blk ?_
    refine goes_code ?_
    refine run_weak [(0, s_0v), (1, .func (.func 36) #[] #[boxP f_1_0b 0]), (7, .int .i64 (s_0.length : Int)), (8, .int .i64 s_5)] [0, 4] [nro s_0v NC_api_Route_82 s_0, box f_1_0b [.string (bs f_1_0)]] (qv4 rfl rfl rfl rfl) (by decide) rfl ?_
    refine run_region' ?_
    refine oy rfl rfl (y_add rfl rfl) ?_
    refine oy rfl rfl (y_move rfl) ?_
    refine ops_nil ?_
    obtain rfl := some_eq h
    exact goes_iter hgo7 (IntKind.i64.wrap (s_5 + 1)) () [0, 1] rfl (qv4 rfl rfl rfl rfl) (by decide) rfl
  ·replace h := cond_f h hc10
   refine run_exit _ rfl ?_
   obtain rfl := some_eq h
   obtain rfl := hstop8 _ rfl
   exact goes_cut hL3 ((), ()) [1] vnil (by decide) rfl rfl
 rintro ⟨_, _⟩ hj
 obtain rfl : o1 = _ := hj
 replace h := after_go ho2
 clear ho2
 change Run _ _ _ (VF.of []) [box f_1_0b [.string (bs f_1_0)]]
 refine run_seq ?_
 refine run_region' ?_
 refine oy rfl rfl (y_assign rfl) ?_
 refine ops_nil ?_
 refine goes_code ?_
 refine run_ret ?_
 obtain rfl := some_eq h
 refine fin_slots [4] [.int .i64 (-1)] [0] [box f_1_0b [.string (bs f_1_0)]] Try.results35 rfl (by decide) rfl ?_
 exact ⟨rfl, rfl⟩

def topo_Entry_L2 (m_0 : S_api_Map) (r5 : (List (Int × Int))) (x28 : S_api_Route) : (Int) → Option (Lp (Int) (Lp (Unit) (Lp (Int) (Lp (Unit) (Int × Int))))) :=
 fun s_30 =>
  cond (decide (s_30 < (x28.Sites.length : Int)))
   (idx x28.Sites s_30 fun x36 =>
   idx m_0.Hubs ((mget r5 x36).getD 0) fun x37 =>
   cond x37.Up
    (some (.stop (.stop (.stop (.stop (x36, 0))))))
    (some (.go (IntKind.i64.wrap (s_30 + 1)))))
   (some (.stop (.go ())))
def topo_Entry_L1 (n : Nat) (m_0 : S_api_Map) (country_1 : (List UInt8)) (r5 : (List (Int × Int))) : (Int) → Option (Lp (Int) (Lp (Unit) (Int × Int))) :=
 fun s_13 =>
  cond (decide (s_13 < (([country_1, []] : List (List UInt8)).length : Int)))
   (idx ([country_1, []] : List (List UInt8)) s_13 fun x19 =>
   obind (slices_IndexFunc_weirgate_api_Route_weirgate_api_Route_35 n m_0.Routes x19) fun r21 =>
   cond (decide (r21 < 0))
    (some (.go (IntKind.i64.wrap (s_13 + 1))))
    (bindJ (S := Unit)
     (idx m_0.Routes r21 fun x28 =>
     iter (topo_Entry_L2 m_0 r5 x28) n 0)
    (fun _ =>
     some (.stop (.go ())))))
   (some (.stop (.go ())))
def topo_Entry (n : Nat) (m_0 : S_api_Map) (country_1 : (List UInt8)) : Option (Int × Int) :=
 obind (topo_ValidMap n m_0) fun r2 =>
 cond (!r2)
  (some (0, 1))
  (obind (topo_places n m_0) fun r5 =>
  bindJ (S := Unit)
   (iter (topo_Entry_L1 n m_0 country_1 r5) n 0)
  (fun _ =>
   some (0, 5)))
theorem topo_Entry_ok (n : Nat) (m_0 : S_api_Map) (country_1 : (List UInt8)) (m_0_Hubsv : Value) (m_0_Routesv : Value) {r : Int × Int} (h : topo_Entry n m_0 country_1 = some r) :
  Meets Try.prog 9 [.agg #[m_0_Hubsv, m_0_Routesv], .string (bs country_1)] [ro m_0_Hubsv 3 (m_0.Hubs.map S_api_Hub.enc), nro m_0_Routesv NC_api_Route_82 m_0.Routes] (fun v G => v = .tuple #[.int .i64 r.1, .int .i64 r.2] ∧ G = []) := by
 refine fn_of_run Try.func9 rfl Try.ntmps9 rfl (fun w0 o0 => ?_)
 refine run_seq ?_
 refine run_region' ?_
 refine ot rfl rfl (t_box rfl) ?_
 rintro _ _ ⟨b1, rfl, rfl⟩
 refine oy rfl rfl (y_assign rfl) ?_
 refine oy rfl rfl (y_assign rfl) ?_
 refine ops_nil ?_
 refine goes_code ?_
 refine run_seq ?_
 refine run_seq ?_
 refine run_region' ?_
 refine oy rfl rfl (y_load_boxagg (c := [m_0_Hubsv, m_0_Routesv]) 2 Try.isAgg25 Try.sizeOf25 rfl rfl rfl) ?_
 obtain ⟨r2, hr3, h⟩ := obind_some h
 refine ot rfl rfl (t_callx (vs := [.agg #[m_0_Hubsv, m_0_Routesv]]) (cs := []) [(0, 0), (1, 0)] rfl Try.call17 rfl (topo_ValidMap_ok n m_0 m_0_Hubsv m_0_Routesv hr3) (showsX_view 0 rfl views_ro (showsX_view 1 rfl views_nro showsX_nil)) rfl (.inl rfl)) ?_
 rintro _ _ ⟨_, ⟨rfl, rfl⟩, rfl⟩
 refine oy rfl rfl (y_not rfl) ?_
 refine ops_nil ?_
 refine goes_code ?_
 refine run_cond (!r2) rfl (fun hc4 => ?_) (fun hc4 => ?_)
 ·replace h := cond_t h hc4
  refine run_seq ?_
  refine run_region' ?_
  refine oy rfl rfl (y_assign rfl) ?_
  refine oy rfl rfl (y_assign rfl) ?_
  refine ops_nil ?_
  refine goes_code ?_
  refine run_ret ?_
  obtain rfl := some_eq h
  refine fin_slots [4, 5] [.int .i64 0, .int .i64 1] [] [] Try.results9 rfl (by decide) rfl ?_
  exact ⟨rfl, rfl⟩
 ·replace h := cond_f h hc4
  refine run_skip ?_
  refine goes_code ?_
  refine run_seq ?_
  refine run_region' ?_
  refine oy rfl rfl (y_load_boxagg (c := [m_0_Hubsv, m_0_Routesv]) 2 Try.isAgg25 Try.sizeOf25 rfl rfl rfl) ?_
  obtain ⟨r5, hr6, h⟩ := obind_some h
  refine ot rfl rfl (t_callx (vs := [.agg #[m_0_Hubsv, m_0_Routesv]]) (cs := []) [(0, 0), (1, 0)] rfl Try.call34 rfl (topo_places_ok n m_0 m_0_Hubsv m_0_Routesv hr6) (showsX_view 0 rfl views_ro (showsX_view 1 rfl views_nro showsX_nil)) rfl (.inl rfl)) ?_
  rintro _ _ ⟨_, ⟨v7, rfl, rfl⟩, rfl⟩
  refine oy rfl rfl (y_assign rfl) ?_
  refine ops_nil ?_
  refine goes_code ?_
  obtain ⟨o8, h, ho9⟩ := bindJ_some h
  refine run_cut ((Unit) × (Unit)) (fun σ => []) (fun σ => []) (fun σ => o8 = .go σ.1) (fun L11 hL10 => ?_) ?_
  ·
   refine run_seq ?_
   refine run_weak [(1, .string (bs country_1)), (2, boxP b1 0), (6, .map (some v7))] [0, 1, 2, 3] [ro m_0_Hubsv 3 (m_0.Hubs.map S_api_Hub.enc), nro m_0_Routesv NC_api_Route_82 m_0.Routes, box b1 [m_0_Hubsv, m_0_Routesv], mapis v7 (mcells (fun n : Int => Value.int .i64 n) (fun n : Int => Value.int .i64 n) r5)] (qv3 rfl rfl rfl) (by decide) rfl ?_
   refine run_region' ?_
   refine oy rfl rfl (y_move rfl) ?_
   refine ot rfl rfl (t_lit [.string (bs country_1), .string (bs [])] Try.runUnderlying26 Try.sizeOf9 Try.zeroValue9 rfl (by decide) (by decide) rfl (by simp [Value.cells, boxP])) ?_
   rintro v12 _ ⟨rfl, _⟩
   refine ops_turn (retell 4 (g := row v12 1 (([country_1, []] : List (List UInt8)).map eStr)) rfl rfl) ?_
   refine oy rfl rfl ((y_len 4 rfl Try.runUnderlying26 rfl rfl reads_row).to (v_len eStr _)) ?_
   refine oy rfl rfl (y_move rfl) ?_
   refine ops_nil ?_
   refine goes_code ?_
   refine run_block ?_
   refine run_iter (step := topo_Entry_L1 n m_0 country_1 r5) (n := n) (s0 := 0) h (G := Unit) () (fun σ γ => [(2, boxP b1 0), (6, .map (some v7)), (18, v12), (19, .int .i64 (([country_1, []] : List (List UInt8)).length : Int)), (20, .int .i64 σ)]) (fun σ γ => [box b1 [m_0_Hubsv, m_0_Routesv], ro m_0_Hubsv 3 (m_0.Hubs.map S_api_Hub.enc), nro m_0_Routesv NC_api_Route_82 m_0.Routes, mapis v7 (mcells (fun n : Int => Value.int .i64 n) (fun n : Int => Value.int .i64 n) r5), row v12 1 (([country_1, []] : List (List UInt8)).map eStr)]) [2, 0, 1, 3, 4] (qv5 rfl rfl rfl rfl rfl) (by decide) rfl ?_
   rintro s_13 _ o14 h L17 hgo15 hstop16
   change Run _ _ _ (VF.of [(2, boxP b1 0), (6, .map (some v7)), (18, v12), (19, .int .i64 (([country_1, []] : List (List UInt8)).length : Int)), (20, .int .i64 s_13)]) [box b1 [m_0_Hubsv, m_0_Routesv], ro m_0_Hubsv 3 (m_0.Hubs.map S_api_Hub.enc), nro m_0_Routesv NC_api_Route_82 m_0.Routes, mapis v7 (mcells (fun n : Int => Value.int .i64 n) (fun n : Int => Value.int .i64 n) r5), row v12 1 (([country_1, []] : List (List UInt8)).map eStr)]
   refine run_seq ?_
   refine run_region' ?_
   refine oy rfl rfl (y_lss rfl rfl) ?_
   refine ops_nil ?_
   refine goes_code ?_
   refine run_seq ?_
   refine run_cond (decide (s_13 < (([country_1, []] : List (List UInt8)).length : Int))) rfl (fun hc18 => ?_) (fun hc18 => ?_)
   ·replace h := cond_t h hc18
    refine run_skip ?_
    refine goes_code ?_
    refine run_seq ?_
    refine run_block ?_
    refine run_seq ?_
    refine run_region' ?_
    obtain ⟨x19, hzx19, hlx19, hxx19, h⟩ := idx_some h
    refine oy rfl rfl (y_indexAddrI (kd := .i64) (i := s_13) 4 Try.runUnderlying26 Try.sizeOf9 rfl rfl rfl reads_row hzx19 (map_lt hlx19)) ?_
    refine oy rfl rfl (y_load_elem (i := s_13.toNat) 4 Try.isAgg9 rfl rfl reads_row (map_get hxx19)) ?_
    refine ot rfl rfl (t_alloc Try.zeroValue9) ?_
    rintro _ _ ⟨b20, rfl, rfl⟩
    refine ot rfl rfl (t_store 5 Try.sizeOf9 rfl rfl rfl rfl (by simp [Value.cells, boxP]) (by simp [Value.cells, Value.oneCell', boxP])) ?_
    rintro _ _ ⟨rfl, rfl⟩
    refine ops_turn (retell 5 (g := box b20 [.string (bs x19)]) rfl rfl) ?_
    refine ops_nil ?_
    refine goes_code ?_
    refine run_seq ?_
    refine run_region' ?_
    refine oy rfl rfl (y_fieldAddr_box (sz := 0) Try.runUnderlying25 rfl Try.sizeOf23 rfl) ?_
    refine oy rfl rfl (y_load_box 0 Try.isAgg23 rfl rfl rfl) ?_
    refine oy rfl rfl (y_makeFunc (vs := [boxP b20 0]) rfl) ?_
    obtain ⟨r21, hr22, h⟩ := obind_some h
    refine ot rfl rfl (t_callx (vs := [m_0_Routesv, .func (.func 36) #[] #[boxP b20 0]]) (cs := []) [(2, 0), (5, 2)] rfl Try.call35 rfl (slices_IndexFunc_weirgate_api_Route_weirgate_api_Route_35_ok n m_0.Routes x19 m_0_Routesv b20 hr22) (showsX_view 2 rfl views_nro (showsX_lend 5 rfl showsX_nil)) rfl (.inl rfl)) ?_
    rintro _ _ ⟨_, ⟨rfl, rfl⟩, rfl⟩
    refine oy rfl rfl (y_assign rfl) ?_
    refine ops_nil ?_
    refine goes_code ?_
    refine run_seq ?_
    refine run_seq ?_
    refine run_weak [(2, boxP b1 0), (6, .map (some v7)), (18, v12), (19, .int .i64 (([country_1, []] : List (List UInt8)).length : Int)), (20, .int .i64 s_13), (9, .int .i64 r21)] [0, 1, 2, 3, 4] [box b1 [m_0_Hubsv, m_0_Routesv], ro m_0_Hubsv 3 (m_0.Hubs.map S_api_Hub.enc), nro m_0_Routesv NC_api_Route_82 m_0.Routes, mapis v7 (mcells (fun n : Int => Value.int .i64 n) (fun n : Int => Value.int .i64 n) r5), row v12 1 (([country_1, []] : List (List UInt8)).map eStr)] (qv6 rfl rfl rfl rfl rfl rfl) (by decide) rfl ?_
    refine run_region' ?_
    refine oy rfl rfl (y_move rfl) ?_
    refine oy rfl rfl (y_lss rfl rfl) ?_
    refine ops_nil ?_
    refine goes_code ?_
    refine run_cond (decide (r21 < 0)) rfl (fun hc23 => ?_) (fun hc23 => ?_)
    ·replace h := cond_t h hc23
     refine run_exit _ rfl ?_
     refine goes_code ?_
     refine run_region' ?_
     refine oy rfl rfl (y_add rfl rfl) ?_
     refine oy rfl rfl (y_move rfl) ?_
     refine ops_nil ?_
     obtain rfl := some_eq h
     exact goes_iter hgo15 (IntKind.i64.wrap (s_13 + 1)) () [0, 1, 2, 3, 4] rfl (qv5 rfl rfl rfl rfl rfl) (by decide) rfl
    ·replace h := cond_f h hc23
     refine run_skip ?_
     refine goes_code ?_
     obtain ⟨o24, h, ho25⟩ := bindJ_some h
     refine run_cut ((Unit) × (Unit)) (fun σ => []) (fun σ => []) (fun σ => o24 = .go σ.1) (fun L27 hL26 => ?_) ?_
     ·
      refine run_seq ?_
      refine run_region' ?_
      refine oy rfl rfl (y_fieldAddr_box (sz := 0) Try.runUnderlying25 rfl Try.sizeOf23 rfl) ?_
      refine oy rfl rfl (y_load_box 0 Try.isAgg23 rfl rfl rfl) ?_
      refine oy rfl rfl (y_move rfl) ?_
      obtain ⟨x28, hzx28, hlx28, hxx28, h⟩ := idx_some h
      refine oy rfl rfl (y_indexAddrN (kd := .i64) (i := r21) 2 Try.runUnderlying23 Try.sizeOf82 rfl rfl rfl readsN_ro hzx28 hlx28) ?_
      refine ops_ex (exAt (C := NC_api_Route_82) (i := r21.toNat) 2 rfl hxx28) ?_
      rintro g29
      refine oy rfl rfl (y_fieldAddr_elem (sz := 0) Try.runUnderlying82 rfl Try.sizeOf35 rfl) ?_
      refine oy rfl rfl (y_load_at (n := r21.toNat * 2) (j := 1) 5 Try.isAgg35 rfl rfl rfl) ?_
      refine oy rfl rfl ((y_len 6 rfl Try.runUnderlying35 rfl rfl reads_ro).to (v_len (eInt .i64) _)) ?_
      refine oy rfl rfl (y_move rfl) ?_
      refine ops_nil ?_
      refine goes_code ?_
      refine run_block ?_
      refine run_iter (step := topo_Entry_L2 m_0 r5 x28) (n := n) (s0 := 0) h (G := Unit) () (fun σ γ => [(2, boxP b1 0), (6, .map (some v7)), (35, g29), (36, .int .i64 (x28.Sites.length : Int)), (37, .int .i64 σ)]) (fun σ γ => [box b1 [m_0_Hubsv, m_0_Routesv], ro m_0_Hubsv 3 (m_0.Hubs.map S_api_Hub.enc), nro m_0_Routesv NC_api_Route_82 m_0.Routes, mapis v7 (mcells (fun n : Int => Value.int .i64 n) (fun n : Int => Value.int .i64 n) r5), ro g29 1 (x28.Sites.map (eInt .i64))]) [0, 1, 2, 3, 6] (qv5 rfl rfl rfl rfl rfl) (by decide) rfl ?_
      rintro s_30 _ o31 h L34 hgo32 hstop33
      change Run _ _ _ (VF.of [(2, boxP b1 0), (6, .map (some v7)), (35, g29), (36, .int .i64 (x28.Sites.length : Int)), (37, .int .i64 s_30)]) [box b1 [m_0_Hubsv, m_0_Routesv], ro m_0_Hubsv 3 (m_0.Hubs.map S_api_Hub.enc), nro m_0_Routesv NC_api_Route_82 m_0.Routes, mapis v7 (mcells (fun n : Int => Value.int .i64 n) (fun n : Int => Value.int .i64 n) r5), ro g29 1 (x28.Sites.map (eInt .i64))]
      refine run_seq ?_
      refine run_region' ?_
      refine oy rfl rfl (y_lss rfl rfl) ?_
      refine ops_nil ?_
      refine goes_code ?_
      refine run_seq ?_
      refine run_cond (decide (s_30 < (x28.Sites.length : Int))) rfl (fun hc35 => ?_) (fun hc35 => ?_)
      ·replace h := cond_t h hc35
       refine run_skip ?_
       refine goes_code ?_
       refine run_seq ?_
       refine run_block ?_
       refine run_seq ?_
       refine run_region' ?_
       obtain ⟨x36, hzx36, hlx36, hxx36, h⟩ := idx_some h
       refine oy rfl rfl (y_indexAddrI (kd := .i64) (i := s_30) 4 Try.runUnderlying35 Try.sizeOf3 rfl rfl rfl reads_ro hzx36 (map_lt hlx36)) ?_
       refine oy rfl rfl (y_load_elem (i := s_30.toNat) 4 Try.isAgg3 rfl rfl reads_ro (map_get hxx36)) ?_
       refine oy rfl rfl (y_assign rfl) ?_
       refine ops_nil ?_
       refine goes_code ?_
       refine run_seq ?_
       refine run_region' ?_
       refine oy rfl rfl (y_fieldAddr_box (sz := 0) Try.runUnderlying25 rfl Try.sizeOf22 rfl) ?_
       refine oy rfl rfl (y_load_box 0 Try.isAgg22 rfl rfl rfl) ?_
       refine oy rfl rfl (y_move rfl) ?_
       refine oy rfl rfl (y_move rfl) ?_
       refine oy rfl rfl (y_lookup (k := x36) (d0 := 0) 3 (key_int .i64) Try.runUnderlying85 Try.runUnderlying3 Try.zeroValue3 rfl rfl rfl) ?_
       obtain ⟨x37, hzx37, hlx37, hxx37, h⟩ := idx_some h
       refine oy rfl rfl (y_indexAddrI (kd := .i64) (i := ((mget r5 x36).getD 0)) 1 Try.runUnderlying22 Try.sizeOf52 rfl rfl rfl reads_ro hzx37 (map_lt hlx37)) ?_
       refine oy rfl rfl (y_fieldAddr_elem (sz := 0) Try.runUnderlying52 rfl Try.sizeOf4 rfl) ?_
       refine oy rfl rfl (y_load_field (i := (((mget r5 x36).getD 0)).toNat) (j := 2) 1 Try.isAgg4 rfl rfl reads_ro (map_get hxx37) rfl) ?_
       refine ops_nil ?_
       refine goes_code ?_
       refine run_cond x37.Up rfl (fun hc38 => ?_) (fun hc38 => ?_)
       ·replace h := cond_t h hc38
        refine run_seq ?_
        refine run_weak [(11, .int .i64 x36)] [] [] (qv1 rfl) (by decide) rfl ?_
        refine run_region' ?_
        refine oy rfl rfl (y_move rfl) ?_
        refine oy rfl rfl (y_assign rfl) ?_
        refine oy rfl rfl (y_assign rfl) ?_
        refine ops_nil ?_
        refine goes_code ?_
        refine run_ret ?_
        obtain rfl := some_eq h
        obtain rfl := hstop33 _ rfl
        skip
        obtain rfl := after_stop ho25
        skip
        obtain rfl := hstop16 _ rfl
        skip
        obtain rfl := after_stop ho9
        refine fin_slots [4, 5] [.int .i64 x36, .int .i64 0] [] [] Try.results9 rfl (by decide) rfl ?_
        exact ⟨rfl, rfl⟩
       ·replace h := cond_f h hc38
        refine run_skip ?_
        refine goes_blk ?_
        refine goes_code ?_
        refine run_weak [(2, boxP b1 0), (6, .map (some v7)), (35, g29), (36, .int .i64 (x28.Sites.length : Int)), (37, .int .i64 s_30)] [0, 1, 2, 3, 4] [box b1 [m_0_Hubsv, m_0_Routesv], ro m_0_Hubsv 3 (m_0.Hubs.map S_api_Hub.enc), nro m_0_Routesv NC_api_Route_82 m_0.Routes, mapis v7 (mcells (fun n : Int => Value.int .i64 n) (fun n : Int => Value.int .i64 n) r5), ro g29 1 (x28.Sites.map (eInt .i64))] (qv5 rfl rfl rfl rfl rfl) (by decide) rfl ?_
        refine run_region' ?_
        refine oy rfl rfl (y_add rfl rfl) ?_
        refine oy rfl rfl (y_move rfl) ?_
        refine ops_nil ?_
        obtain rfl := some_eq h
        exact goes_iter hgo32 (IntKind.i64.wrap (s_30 + 1)) () [0, 1, 2, 3, 4] rfl (qv5 rfl rfl rfl rfl rfl) (by decide) rfl
      ·replace h := cond_f h hc35
       refine run_exit _ rfl ?_
       obtain rfl := some_eq h
       obtain rfl := hstop33 _ rfl
       exact goes_cut hL26 ((), ()) [] vnil (by decide) rfl rfl
     rintro ⟨_, _⟩ hj
     obtain rfl : o24 = _ := hj
     replace h := after_go ho25
     clear ho25
     change Run _ _ _ (VF.of []) []
     refine run_exit _ rfl ?_
     obtain rfl := some_eq h
     obtain rfl := hstop16 _ rfl
     exact goes_cut hL10 ((), ()) [] vnil (by decide) rfl rfl
   ·replace h := cond_f h hc18
    refine run_exit _ rfl ?_
    obtain rfl := some_eq h
    obtain rfl := hstop16 _ rfl
    exact goes_cut hL10 ((), ()) [] vnil (by decide) rfl rfl
  rintro ⟨_, _⟩ hj
  obtain rfl : o8 = _ := hj
  replace h := after_go ho9
  clear ho9
  change Run _ _ _ (VF.of []) []
  refine run_seq ?_
  refine run_region' ?_
  refine oy rfl rfl (y_assign rfl) ?_
  refine oy rfl rfl (y_assign rfl) ?_
  refine ops_nil ?_
  refine goes_code ?_
  refine run_ret ?_
  obtain rfl := some_eq h
  refine fin_slots [4, 5] [.int .i64 0, .int .i64 5] [] [] Try.results9 rfl (by decide) rfl ?_
  exact ⟨rfl, rfl⟩

def topo_find_1_67 (h_0 : S_api_Hub) (a_1 : Int) : Option (Bool) :=
 some (decide (h_0.Site = a_1))
theorem topo_find_1_67_ok (h_0 : S_api_Hub) (a_1 : Int) (a_1b : Nat) {r : Bool} (h : topo_find_1_67 h_0 a_1 = some r) :
  Meets Try.prog 67 [.agg #[.int .i64 h_0.Site, .int .i64 h_0.Parent, .bool h_0.Up], boxP a_1b 0] [box a_1b [.int .i64 a_1]] (fun v G => v = .bool r ∧ G = [box a_1b [.int .i64 a_1]]) := by
 refine fn_of_run Try.func67 rfl Try.ntmps67 rfl (fun w0 o0 => ?_)
 refine run_seq ?_
 refine run_region' ?_
 refine ot rfl rfl (t_box rfl) ?_
 rintro _ _ ⟨b1, rfl, rfl⟩
 refine oy rfl rfl (y_assign rfl) ?_
 refine ops_nil ?_
 refine goes_code ?_
 refine run_seq ?_
 refine run_region' ?_
 refine oy rfl rfl (y_fieldAddr_box (sz := 0) Try.runUnderlying52 rfl Try.sizeOf3 rfl) ?_
 refine oy rfl rfl (y_load_box 1 Try.isAgg3 rfl rfl rfl) ?_
 refine oy rfl rfl (y_load_box 0 Try.isAgg3 rfl rfl rfl) ?_
 refine oy rfl rfl (y_eql rfl rfl) ?_
 refine oy rfl rfl (y_assign rfl) ?_
 refine ops_nil ?_
 refine goes_code ?_
 refine run_ret ?_
 obtain rfl := some_eq h
 refine fin_slots [3] [.bool (decide (h_0.Site = a_1))] [0] [box a_1b [.int .i64 a_1]] Try.results67 rfl (by decide) rfl ?_
 exact ⟨rfl, rfl⟩

def slices_IndexFunc_weirgate_api_Hub_weirgate_api_Hub_66_L1 (s_0 : (List S_api_Hub)) (f_1_0 : Int) : (Int) → Option (Lp (Int) (Lp (Unit) (Int))) :=
 fun s_5 =>
  cond (decide (s_5 < (s_0.length : Int)))
   (idx s_0 s_5 fun x11 =>
   obind (topo_find_1_67 x11 f_1_0) fun r12 =>
   cond r12
    (some (.stop (.stop s_5)))
    (some (.go (IntKind.i64.wrap (s_5 + 1)))))
   (some (.stop (.go ())))
def slices_IndexFunc_weirgate_api_Hub_weirgate_api_Hub_66 (n : Nat) (s_0 : (List S_api_Hub)) (f_1_0 : Int) : Option (Int) :=
 bindJ (S := Unit)
  (iter (slices_IndexFunc_weirgate_api_Hub_weirgate_api_Hub_66_L1 s_0 f_1_0) n 0)
 (fun _ =>
  some (-1))
theorem slices_IndexFunc_weirgate_api_Hub_weirgate_api_Hub_66_ok (n : Nat) (s_0 : (List S_api_Hub)) (f_1_0 : Int) (s_0v : Value) (f_1_0b : Nat) {r : Int} (h : slices_IndexFunc_weirgate_api_Hub_weirgate_api_Hub_66 n s_0 f_1_0 = some r) :
  Meets Try.prog 66 [s_0v, .func (.func 67) #[] #[boxP f_1_0b 0]] [ro s_0v 3 (s_0.map S_api_Hub.enc), box f_1_0b [.int .i64 f_1_0]] (fun v G => v = .int .i64 r ∧ G = [box f_1_0b [.int .i64 f_1_0]]) := by
 refine fn_of_run Try.func66 rfl Try.ntmps66 rfl (fun w0 o0 => ?_)
 refine run_seq ?_
 refine run_region' ?_
 refine oy rfl rfl (y_assign rfl) ?_
 refine ops_nil ?_
 refine goes_code ?_
 obtain ⟨o1, h, ho2⟩ := bindJ_some h
 refine run_cut ((Unit) × (Unit)) (fun σ => []) (fun σ => [box f_1_0b [.int .i64 f_1_0]]) (fun σ => o1 = .go σ.1) (fun L4 hL3 => ?_) ?_
 ·
  refine run_seq ?_
  refine run_region' ?_
  refine oy rfl rfl (y_move rfl) ?_
  refine oy rfl rfl ((y_len 0 rfl Try.runUnderlying22 rfl rfl reads_ro).to (v_len S_api_Hub.enc _)) ?_
  refine oy rfl rfl (y_move rfl) ?_
  refine ops_nil ?_
  refine goes_code ?_
  refine run_block ?_
  refine run_iter (step := slices_IndexFunc_weirgate_api_Hub_weirgate_api_Hub_66_L1 s_0 f_1_0) (n := n) (s0 := 0) h (G := Unit) () (fun σ γ => [(0, s_0v), (1, .func (.func 67) #[] #[boxP f_1_0b 0]), (7, .int .i64 (s_0.length : Int)), (8, .int .i64 σ)]) (fun σ γ => [ro s_0v 3 (s_0.map S_api_Hub.enc), box f_1_0b [.int .i64 f_1_0]]) [0, 1] (qv4 rfl rfl rfl rfl) (by decide) rfl ?_
  rintro s_5 _ o6 h L9 hgo7 hstop8
  change Run _ _ _ (VF.of [(0, s_0v), (1, .func (.func 67) #[] #[boxP f_1_0b 0]), (7, .int .i64 (s_0.length : Int)), (8, .int .i64 s_5)]) [ro s_0v 3 (s_0.map S_api_Hub.enc), box f_1_0b [.int .i64 f_1_0]]
  refine run_seq ?_
  refine run_region' ?_
  refine oy rfl rfl (y_lss rfl rfl) ?_
  refine ops_nil ?_
  refine goes_code ?_
  refine run_seq ?_
  refine run_cond (decide (s_5 < (s_0.length : Int))) rfl (fun hc10 => ?_) (fun hc10 => ?_)
  ·replace h := cond_t h hc10
   refine run_skip ?_
   refine goes_code ?_
   refine run_seq ?_
   refine run_block ?_
   refine run_seq ?_
   refine run_region' ?_
   refine oy rfl rfl (y_move rfl) ?_
   refine oy rfl rfl (y_assign rfl) ?_
   refine ops_nil ?_
   refine goes_code ?_
   refine run_seq ?_
   refine run_region' ?_
   refine oy rfl rfl (y_move rfl) ?_
   refine oy rfl rfl (y_move rfl) ?_
   refine oy rfl rfl (y_move rfl) ?_
   obtain ⟨x11, hzx11, hlx11, hxx11, h⟩ := idx_some h
   refine oy rfl rfl (y_indexAddrI (kd := .i64) (i := s_5) 0 Try.runUnderlying22 Try.sizeOf52 rfl rfl rfl reads_ro hzx11 (map_lt hlx11)) ?_
   refine oy rfl rfl (y_load_agg (i := s_5.toNat) (c := [.int .i64 x11.Site, .int .i64 x11.Parent, .bool x11.Up]) 0 Try.isAgg52 Try.sizeOf52 rfl rfl reads_ro (map_get hxx11)) ?_
   obtain ⟨r12, hr13, h⟩ := obind_some h
   refine ot rfl rfl (t_callx (vs := [.agg #[.int .i64 x11.Site, .int .i64 x11.Parent, .bool x11.Up]]) (cs := [boxP f_1_0b 0]) [(1, 2)] rfl Try.call67 rfl (topo_find_1_67_ok x11 f_1_0 f_1_0b hr13) (showsX_lend 1 rfl showsX_nil) rfl (.inl rfl)) ?_
   rintro _ _ ⟨_, ⟨rfl, rfl⟩, rfl⟩
   refine ops_nil ?_
   refine goes_code ?_
   refine run_cond r12 rfl (fun hc14 => ?_) (fun hc14 => ?_)
   ·replace h := cond_t h hc14
    refine run_seq ?_
    refine run_weak [(5, .int .i64 s_5)] [2] [box f_1_0b [.int .i64 f_1_0]] (qv1 rfl) (by decide) rfl ?_
    refine run_region' ?_
    refine oy rfl rfl (y_move rfl) ?_
    refine oy rfl rfl (y_assign rfl) ?_
    refine ops_nil ?_
    refine goes_code ?_
    refine run_ret ?_
    obtain rfl := some_eq h
    obtain rfl := hstop8 _ rfl
    skip
    obtain rfl := after_stop ho2
    refine fin_slots [4] [.int .i64 s_5] [0] [box f_1_0b [.int .i64 f_1_0]] Try.results66 rfl (by decide) rfl ?_
    exact ⟨rfl, rfl⟩
   ·replace h := cond_f h hc14
    refine run_skip ?_
    refine goes_blk ?_
    refine goes_code ?_
    refine run_weak [(0, s_0v), (1, .func (.func 67) #[] #[boxP f_1_0b 0]), (7, .int .i64 (s_0.length : Int)), (8, .int .i64 s_5)] [0, 2] [ro s_0v 3 (s_0.map S_api_Hub.enc), box f_1_0b [.int .i64 f_1_0]] (qv4 rfl rfl rfl rfl) (by decide) rfl ?_
    refine run_region' ?_
    refine oy rfl rfl (y_add rfl rfl) ?_
    refine oy rfl rfl (y_move rfl) ?_
    refine ops_nil ?_
    obtain rfl := some_eq h
    exact goes_iter hgo7 (IntKind.i64.wrap (s_5 + 1)) () [0, 1] rfl (qv4 rfl rfl rfl rfl) (by decide) rfl
  ·replace h := cond_f h hc10
   refine run_exit _ rfl ?_
   obtain rfl := some_eq h
   obtain rfl := hstop8 _ rfl
   exact goes_cut hL3 ((), ()) [1] vnil (by decide) rfl rfl
 rintro ⟨_, _⟩ hj
 obtain rfl : o1 = _ := hj
 replace h := after_go ho2
 clear ho2
 change Run _ _ _ (VF.of []) [box f_1_0b [.int .i64 f_1_0]]
 refine run_seq ?_
 refine run_region' ?_
 refine oy rfl rfl (y_assign rfl) ?_
 refine ops_nil ?_
 refine goes_code ?_
 refine run_ret ?_
 obtain rfl := some_eq h
 refine fin_slots [4] [.int .i64 (-1)] [0] [box f_1_0b [.int .i64 f_1_0]] Try.results66 rfl (by decide) rfl ?_
 exact ⟨rfl, rfl⟩

def topo_find (n : Nat) (m_0 : S_api_Map) (site_1 : Int) : Option (Int) :=
 obind (slices_IndexFunc_weirgate_api_Hub_weirgate_api_Hub_66 n m_0.Hubs site_1) fun r3 =>
 some r3
theorem topo_find_ok (n : Nat) (m_0 : S_api_Map) (site_1 : Int) (m_0_Hubsv : Value) (m_0_Routesv : Value) {r : Int} (h : topo_find n m_0 site_1 = some r) :
  Meets Try.prog 39 [.agg #[m_0_Hubsv, m_0_Routesv], .int .i64 site_1] [ro m_0_Hubsv 3 (m_0.Hubs.map S_api_Hub.enc), nro m_0_Routesv NC_api_Route_82 m_0.Routes] (fun v G => v = .int .i64 r ∧ G = []) := by
 refine fn_of_run Try.func39 rfl Try.ntmps39 rfl (fun w0 o0 => ?_)
 refine run_seq ?_
 refine run_region' ?_
 refine ot rfl rfl (t_box rfl) ?_
 rintro _ _ ⟨b1, rfl, rfl⟩
 refine ot rfl rfl (t_box rfl) ?_
 rintro _ _ ⟨b2, rfl, rfl⟩
 refine oy rfl rfl (y_assign rfl) ?_
 refine ops_nil ?_
 refine goes_code ?_
 refine run_seq ?_
 refine run_region' ?_
 refine oy rfl rfl (y_fieldAddr_box (sz := 0) Try.runUnderlying25 rfl Try.sizeOf22 rfl) ?_
 refine oy rfl rfl (y_load_box 2 Try.isAgg22 rfl rfl rfl) ?_
 refine oy rfl rfl (y_makeFunc (vs := [boxP b2 0]) rfl) ?_
 obtain ⟨r3, hr4, h⟩ := obind_some h
 refine ot rfl rfl (t_callx (vs := [m_0_Hubsv, .func (.func 67) #[] #[boxP b2 0]]) (cs := []) [(0, 0), (3, 2)] rfl Try.call66 rfl (slices_IndexFunc_weirgate_api_Hub_weirgate_api_Hub_66_ok n m_0.Hubs site_1 m_0_Hubsv b2 hr4) (showsX_view 0 rfl views_ro (showsX_lend 3 rfl showsX_nil)) rfl (.inl rfl)) ?_
 rintro _ _ ⟨_, ⟨rfl, rfl⟩, rfl⟩
 refine oy rfl rfl (y_assign rfl) ?_
 refine ops_nil ?_
 refine goes_code ?_
 refine run_ret ?_
 obtain rfl := some_eq h
 refine fin_slots [4] [.int .i64 r3] [] [] Try.results39 rfl (by decide) rfl ?_
 exact ⟨rfl, rfl⟩

def slices_Clone_weirgate_api_Hub_weirgate_api_Hub_41 (s_0 : (List S_api_Hub)) : Option ((List S_api_Hub)) :=
 need (([] : List S_api_Hub).length + s_0.length ≤ 4294967296) (
 some (([] : List S_api_Hub) ++ s_0))
theorem slices_Clone_weirgate_api_Hub_weirgate_api_Hub_41_ok (s_0 : (List S_api_Hub)) (s_0v : Value) {r : (List S_api_Hub)} (h : slices_Clone_weirgate_api_Hub_weirgate_api_Hub_41 s_0 = some r) :
  Meets Try.prog 41 [s_0v] [ro s_0v 3 (s_0.map S_api_Hub.enc)] (fun v G => ∃ v0, v = v0 ∧ G = [row v0 3 (r.map S_api_Hub.enc)]) := by
 refine fn_of_run Try.func41 rfl Try.ntmps41 rfl (fun w0 o0 => ?_)
 refine run_seq ?_
 refine run_region' ?_
 refine oy rfl rfl (y_assign rfl) ?_
 refine ops_nil ?_
 refine goes_code ?_
 refine run_seq ?_
 refine run_seq ?_
 refine run_region' ?_
 refine oy rfl rfl (y_move rfl) ?_
 refine ot rfl rfl (t_isnil 0 Try.runUnderlying22 rfl rfl rfl reads_ro) ?_
 rintro _ _ ⟨b1, rfl, rfl, hb2⟩
 refine ops_nil ?_
 refine goes_code ?_
 refine run_cond b1 rfl (fun hc3 => ?_) (fun hc3 => ?_)
 ·obtain rfl : s_0 = [] := List.map_eq_nil_iff.1 (hb2 hc3)
  obtain ⟨_, h⟩ := need_some h
  refine run_seq ?_
  refine run_region' ?_
  refine oy rfl rfl (y_assign rfl) ?_
  refine ops_nil ?_
  refine goes_code ?_
  refine run_ret ?_
  refine fin_turn (nilrow 3) ?_
  refine fin_turn (retell 1 (g := row (.slice none 0 0) 3 (([] : List S_api_Hub).map S_api_Hub.enc)) rfl rfl) ?_
  obtain rfl := some_eq h
  refine fin_slots [2] [(.slice none 0 0)] [1] [row (.slice none 0 0) 3 (([] : List S_api_Hub).map S_api_Hub.enc)] Try.results41 rfl (by decide) rfl ?_
  exact ⟨_, rfl, rfl⟩
 ·skip
  refine run_skip ?_
  refine goes_code ?_
  refine run_seq ?_
  refine run_region' ?_
  refine ot rfl rfl (t_lit [] Try.runUnderlying22 Try.sizeOf52 Try.zeroValue52 rfl (by decide) (by decide) rfl (by simp [Value.cells, boxP])) ?_
  rintro v4 _ ⟨rfl, _⟩
  refine ops_turn (retell 1 (g := row v4 3 (([] : List S_api_Hub).map S_api_Hub.enc)) rfl rfl) ?_
  refine oy rfl rfl (y_move rfl) ?_
  obtain ⟨hr6, h⟩ := need_some h
  refine ot rfl rfl (t_append (es := 3) 1 rfl Try.runUnderlying22 rfl Try.runUnderlying22 (.inr ⟨_, rfl⟩) Try.typeInfo52 rfl (by decide) Try.zeroValue52 rfl rfl rfl rfl (src_reads 0 rfl reads_ro (map_ok S_api_Hub.enc_ok _)) (map_room hr6 (by decide)) (map_fit hr6)) ?_
  rintro v5 _ rfl
  refine ops_turn (retell 1 (g := row v5 3 ((([] : List S_api_Hub) ++ s_0).map S_api_Hub.enc)) rfl (congrArg (row _ _) List.map_append.symm)) ?_
  refine oy rfl rfl (y_assign rfl) ?_
  refine ops_nil ?_
  refine goes_code ?_
  refine run_ret ?_
  obtain rfl := some_eq h
  refine fin_slots [2] [v5] [1] [row v5 3 ((([] : List S_api_Hub) ++ s_0).map S_api_Hub.enc)] Try.results41 rfl (by decide) rfl ?_
  exact ⟨_, rfl, rfl⟩

def topo_Turn (n : Nat) (m_0 : S_api_Map) (site_1 : Int) (up_2 : Bool) : Option (S_api_Map × Int) :=
 obind (topo_find n m_0 site_1) fun r3 =>
 obind (topo_ValidMap n m_0) fun r5 =>
 cond (!r5)
  (some ((S_api_Map.mk ([] : List S_api_Hub) ([] : List S_api_Route)), 1))
  (cond (decide (r3 < 0))
   (some ((S_api_Map.mk ([] : List S_api_Hub) ([] : List S_api_Route)), 5))
   (obind (slices_Clone_weirgate_api_Hub_weirgate_api_Hub_41 m_0.Hubs) fun r9 =>
   idx r9 r3 fun x13 =>
   some ((S_api_Map.mk (r9.set r3.toNat (S_api_Hub.mk x13.Site x13.Parent up_2)) m_0.Routes), 0)))
theorem topo_Turn_ok (n : Nat) (m_0 : S_api_Map) (site_1 : Int) (up_2 : Bool) (m_0_Hubsv : Value) (m_0_Routesv : Value) {r : S_api_Map × Int} (h : topo_Turn n m_0 site_1 up_2 = some r) :
  Meets Try.prog 12 [.agg #[m_0_Hubsv, m_0_Routesv], .int .i64 site_1, .bool up_2] [ro m_0_Hubsv 3 (m_0.Hubs.map S_api_Hub.enc), nro m_0_Routesv NC_api_Route_82 m_0.Routes] (fun v G => ∃ v0 v1, v = .tuple #[.agg #[v0, v1], .int .i64 r.2] ∧ G = [row v0 3 (r.1.Hubs.map S_api_Hub.enc), nro v1 NC_api_Route_82 r.1.Routes]) := by
 refine fn_of_run Try.func12 rfl Try.ntmps12 rfl (fun w0 o0 => ?_)
 refine run_seq ?_
 refine run_region' ?_
 refine ot rfl rfl (t_box rfl) ?_
 rintro _ _ ⟨b1, rfl, rfl⟩
 refine ot rfl rfl (t_alloc Try.zeroValue25) ?_
 rintro _ _ ⟨b2, rfl, rfl⟩
 refine oy rfl rfl (y_assign rfl) ?_
 refine ops_nil ?_
 refine goes_code ?_
 refine run_seq ?_
 refine run_region' ?_
 refine oy rfl rfl (y_load_boxagg (c := [m_0_Hubsv, m_0_Routesv]) 2 Try.isAgg25 Try.sizeOf25 rfl rfl rfl) ?_
 refine oy rfl rfl (y_move rfl) ?_
 obtain ⟨r3, hr4, h⟩ := obind_some h
 refine ot rfl rfl (t_callx (vs := [.agg #[m_0_Hubsv, m_0_Routesv], .int .i64 site_1]) (cs := []) [(0, 0), (1, 0)] rfl Try.call39 rfl (topo_find_ok n m_0 site_1 m_0_Hubsv m_0_Routesv hr4) (showsX_view 0 rfl views_ro (showsX_view 1 rfl views_nro showsX_nil)) rfl (.inl rfl)) ?_
 rintro _ _ ⟨_, ⟨rfl, rfl⟩, rfl⟩
 refine oy rfl rfl (y_assign rfl) ?_
 refine ops_nil ?_
 refine goes_code ?_
 refine run_seq ?_
 refine run_block ?_
 refine run_seq ?_
 refine run_region' ?_
 refine oy rfl rfl (y_load_boxagg (c := [m_0_Hubsv, m_0_Routesv]) 2 Try.isAgg25 Try.sizeOf25 rfl rfl rfl) ?_
 obtain ⟨r5, hr6, h⟩ := obind_some h
 refine ot rfl rfl (t_callx (vs := [.agg #[m_0_Hubsv, m_0_Routesv]]) (cs := []) [(0, 0), (1, 0)] rfl Try.call17 rfl (topo_ValidMap_ok n m_0 m_0_Hubsv m_0_Routesv hr6) (showsX_view 0 rfl views_ro (showsX_view 1 rfl views_nro showsX_nil)) rfl (.inl rfl)) ?_
 rintro _ _ ⟨_, ⟨rfl, rfl⟩, rfl⟩
 refine oy rfl rfl (y_not rfl) ?_
 refine oy rfl rfl (y_assign rfl) ?_
 refine ops_nil ?_
 refine goes_code ?_
 refine run_cond (!r5) rfl (fun hc7 => ?_) (fun hc7 => ?_)
 ·replace h := cond_t h hc7
  refine run_seq ?_
  refine run_weak [(6, boxP b2 0)] [3] [box b2 [.slice none 0 0, .slice none 0 0]] (qv1 rfl) (by decide) rfl ?_
  refine run_region' ?_
  refine oy rfl rfl (y_build_struct (cells := #[.slice none 0 0, .slice none 0 0]) [] [] Try.zeroValue25 Try.runUnderlying25 (fs_cons Try.sizeOf22 (fs_cons Try.sizeOf23 fs_nil)) rfl rfl rfl) ?_
  refine ot rfl rfl (t_store 0 Try.sizeOf25 rfl rfl rfl rfl (by simp [Value.cells, boxP]) (by simp [Value.cells, Value.oneCell', boxP])) ?_
  rintro _ _ ⟨rfl, rfl⟩
  refine ops_turn (retell 0 (g := box b2 [.slice none 0 0, .slice none 0 0]) rfl rfl) ?_
  refine oy rfl rfl (y_assign rfl) ?_
  refine ops_nil ?_
  refine goes_code ?_
  refine run_ret ?_
  refine fin_turn (nilrow 3) ?_
  refine fin_turn (retell 1 (g := row (.slice none 0 0) 3 (([] : List S_api_Hub).map S_api_Hub.enc)) rfl rfl) ?_
  refine fin_turn (nilroN NC_api_Route_82) ?_
  obtain rfl := some_eq h
  refine fin_res [.cell 6 25, .tmp 7] [.agg #[(.slice none 0 0), (.slice none 0 0)], .int .i64 1] [1, 2] [row (.slice none 0 0) 3 (([] : List S_api_Hub).map S_api_Hub.enc), nro (.slice none 0 0) NC_api_Route_82 ([] : List S_api_Route)] Try.results12 rfl (rescons (res_box 0 Try.isAgg25 Try.sizeOf25 rfl rfl rfl) (rescons (res_tmp rfl) resnil)) (by decide) rfl ?_
  exact ⟨_, _, rfl, rfl⟩
 ·replace h := cond_f h hc7
  refine run_seq ?_
  refine run_weak [(2, .bool up_2), (3, boxP b1 0), (6, boxP b2 0), (8, .int .i64 r3)] [0, 1, 2, 3] [ro m_0_Hubsv 3 (m_0.Hubs.map S_api_Hub.enc), nro m_0_Routesv NC_api_Route_82 m_0.Routes, box b1 [m_0_Hubsv, m_0_Routesv], box b2 [.slice none 0 0, .slice none 0 0]] (qv4 rfl rfl rfl rfl) (by decide) rfl ?_
  refine run_region' ?_
  refine oy rfl rfl (y_move rfl) ?_
  refine oy rfl rfl (y_lss rfl rfl) ?_
  refine oy rfl rfl (y_assign rfl) ?_
  refine ops_nil ?_
  refine goes_code ?_
  refine run_cond (decide (r3 < 0)) rfl (fun hc8 => ?_) (fun hc8 => ?_)
  ·replace h := cond_t h hc8
   refine run_seq ?_
   refine run_region' ?_
   refine oy rfl rfl (y_build_struct (cells := #[.slice none 0 0, .slice none 0 0]) [] [] Try.zeroValue25 Try.runUnderlying25 (fs_cons Try.sizeOf22 (fs_cons Try.sizeOf23 fs_nil)) rfl rfl rfl) ?_
   refine ot rfl rfl (t_store 3 Try.sizeOf25 rfl rfl rfl rfl (by simp [Value.cells, boxP]) (by simp [Value.cells, Value.oneCell', boxP])) ?_
   rintro _ _ ⟨rfl, rfl⟩
   refine ops_turn (retell 3 (g := box b2 [.slice none 0 0, .slice none 0 0]) rfl rfl) ?_
   refine oy rfl rfl (y_assign rfl) ?_
   refine ops_nil ?_
   refine goes_code ?_
   refine run_ret ?_
   refine fin_turn (nilrow 3) ?_
   refine fin_turn (retell 4 (g := row (.slice none 0 0) 3 (([] : List S_api_Hub).map S_api_Hub.enc)) rfl rfl) ?_
   refine fin_turn (nilroN NC_api_Route_82) ?_
   obtain rfl := some_eq h
   refine fin_res [.cell 6 25, .tmp 7] [.agg #[(.slice none 0 0), (.slice none 0 0)], .int .i64 5] [4, 5] [row (.slice none 0 0) 3 (([] : List S_api_Hub).map S_api_Hub.enc), nro (.slice none 0 0) NC_api_Route_82 ([] : List S_api_Route)] Try.results12 rfl (rescons (res_box 3 Try.isAgg25 Try.sizeOf25 rfl rfl rfl) (rescons (res_tmp rfl) resnil)) (by decide) rfl ?_
   exact ⟨_, _, rfl, rfl⟩
  ·replace h := cond_f h hc8
   refine run_skip ?_
   refine goes_blk ?_
   refine goes_code ?_
   refine run_seq ?_
   refine run_region' ?_
   refine oy rfl rfl (y_fieldAddr_box (sz := 0) Try.runUnderlying25 rfl Try.sizeOf22 rfl) ?_
   refine oy rfl rfl (y_load_box 2 Try.isAgg22 rfl rfl rfl) ?_
   obtain ⟨r9, hr10, h⟩ := obind_some h
   refine ot rfl rfl (t_callx (vs := [m_0_Hubsv]) (cs := []) [(0, 0)] rfl Try.call41 rfl (slices_Clone_weirgate_api_Hub_weirgate_api_Hub_41_ok m_0.Hubs m_0_Hubsv hr10) (showsX_view 0 rfl views_ro showsX_nil) rfl (.inl rfl)) ?_
   rintro v11 _ ⟨_, ⟨_, rfl, rfl⟩, rfl⟩
   refine oy rfl rfl (y_fieldAddr_box (sz := 0) Try.runUnderlying25 rfl Try.sizeOf22 rfl) ?_
   refine ops_slc 4 rfl reads_row (fun hs12 hs12o => ?_)
   refine ot rfl rfl (t_store 2 Try.sizeOf22 rfl rfl rfl (by rw [hs12]; rfl) (by simp [Value.cells, boxP]) (by rw [hs12]; exact allL_cons hs12o (allL_nil))) ?_
   rintro _ _ ⟨rfl, rfl⟩
   refine ops_turn (retell 2 (g := box b1 [v11, m_0_Routesv]) rfl (by rw [hs12]; rfl)) ?_
   refine ops_nil ?_
   refine goes_code ?_
   refine run_seq ?_
   refine run_weak [(2, .bool up_2), (3, boxP b1 0), (6, boxP b2 0), (8, .int .i64 r3)] [1, 2, 3, 4] [nro m_0_Routesv NC_api_Route_82 m_0.Routes, box b1 [v11, m_0_Routesv], box b2 [.slice none 0 0, .slice none 0 0], row v11 3 (r9.map S_api_Hub.enc)] (qv4 rfl rfl rfl rfl) (by decide) rfl ?_
   refine run_region' ?_
   refine oy rfl rfl (y_fieldAddr_box (sz := 0) Try.runUnderlying25 rfl Try.sizeOf22 rfl) ?_
   refine oy rfl rfl (y_load_box 1 Try.isAgg22 rfl rfl rfl) ?_
   refine oy rfl rfl (y_move rfl) ?_
   refine oy rfl rfl (y_move rfl) ?_
   obtain ⟨x13, hzx13, hlx13, hxx13, h⟩ := idx_some h
   refine oy rfl rfl (y_indexAddrI (kd := .i64) (i := r3) 3 Try.runUnderlying22 Try.sizeOf52 rfl rfl rfl reads_row hzx13 (map_lt hlx13)) ?_
   refine oy rfl rfl (y_fieldAddr_elem (sz := 0) Try.runUnderlying52 rfl Try.sizeOf4 rfl) ?_
   refine ot rfl rfl (t_store_row (i := r3.toNat) (j := 2) (c := S_api_Hub.enc x13) 3 Try.sizeOf4 rfl rfl rfl rfl (map_get hxx13) (by decide) (by simp [Value.cells, Value.oneCell', boxP])) ?_
   rintro _ _ ⟨rfl, rfl⟩
   obtain hxx14 : ((r9.set r3.toNat (S_api_Hub.mk x13.Site x13.Parent up_2)) : List S_api_Hub)[r3.toNat]? = some (S_api_Hub.mk x13.Site x13.Parent up_2) := set_at hlx13
   obtain hlx14 : r3.toNat < ((r9.set r3.toNat (S_api_Hub.mk x13.Site x13.Parent up_2)) : List S_api_Hub).length := set_lt hlx13
   obtain hzx14 : (0 : Int) ≤ r3 := id hzx13
   refine ops_turn (retell 3 (g := row v11 3 ((r9.set r3.toNat (S_api_Hub.mk x13.Site x13.Parent up_2)).map S_api_Hub.enc)) rfl (congrArg (row _ _) (map_set_at rfl))) ?_
   refine ops_nil ?_
   refine goes_code ?_
   refine run_seq ?_
   refine run_region' ?_
   refine oy rfl rfl (y_load_boxagg (c := [v11, m_0_Routesv]) 1 Try.isAgg25 Try.sizeOf25 rfl rfl rfl) ?_
   refine ops_slc 3 rfl reads_row (fun hs15 hs15o => ?_)
   refine ops_slcN 0 rfl readsN_ro (fun hs16 hs16o => ?_)
   refine ot rfl rfl (t_store 2 Try.sizeOf25 rfl rfl rfl rfl (by simp [Value.cells, boxP]) (allL_cons hs15o (allL_cons hs16o (allL_nil)))) ?_
   rintro _ _ ⟨rfl, rfl⟩
   refine ops_turn (retell 2 (g := box b2 [v11, m_0_Routesv]) rfl rfl) ?_
   refine oy rfl rfl (y_assign rfl) ?_
   refine ops_nil ?_
   refine goes_code ?_
   refine run_ret ?_
   obtain rfl := some_eq h
   refine fin_res [.cell 6 25, .tmp 7] [.agg #[v11, m_0_Routesv], .int .i64 0] [3, 0] [row v11 3 ((r9.set r3.toNat (S_api_Hub.mk x13.Site x13.Parent up_2)).map S_api_Hub.enc), nro m_0_Routesv NC_api_Route_82 m_0.Routes] Try.results12 rfl (rescons (res_box 2 Try.isAgg25 Try.sizeOf25 rfl rfl rfl) (rescons (res_tmp rfl) resnil)) (by decide) rfl ?_
   exact ⟨_, _, rfl, rfl⟩

def topo_upward (n : Nat) (m_0 : S_api_Map) (site_1 : Int) : Option ((List (Int × Int))) :=
 obind (topo_places n m_0) fun r3 =>
 some r3
theorem topo_upward_ok (n : Nat) (m_0 : S_api_Map) (site_1 : Int) (m_0_Hubsv : Value) (m_0_Routesv : Value) {r : (List (Int × Int))} (h : topo_upward n m_0 site_1 = some r) :
  Meets Try.prog 40 [.agg #[m_0_Hubsv, m_0_Routesv], .int .i64 site_1] [ro m_0_Hubsv 3 (m_0.Hubs.map S_api_Hub.enc), nro m_0_Routesv NC_api_Route_82 m_0.Routes] (fun v G => ∃ v0 v1 v2 v3, v = .func (.func 68) #[] #[boxP v0 0, boxP v1 0, boxP v3 0] ∧ G = [box v0 [.int .i64 site_1], box v1 [m_0_Hubsv, m_0_Routesv], mapis v2 (mcells (fun n : Int => Value.int .i64 n) (fun n : Int => Value.int .i64 n) r), box v3 [.map (some v2)]]) := by
 refine fn_of_run Try.func40 rfl Try.ntmps40 rfl (fun w0 o0 => ?_)
 refine run_seq ?_
 refine run_region' ?_
 refine ot rfl rfl (t_box rfl) ?_
 rintro _ _ ⟨b1, rfl, rfl⟩
 refine ot rfl rfl (t_box rfl) ?_
 rintro _ _ ⟨b2, rfl, rfl⟩
 refine oy rfl rfl (y_assign rfl) ?_
 refine ops_nil ?_
 refine goes_code ?_
 refine run_seq ?_
 refine run_region' ?_
 refine oy rfl rfl (y_load_boxagg (c := [m_0_Hubsv, m_0_Routesv]) 2 Try.isAgg25 Try.sizeOf25 rfl rfl rfl) ?_
 obtain ⟨r3, hr4, h⟩ := obind_some h
 refine ot rfl rfl (t_callx (vs := [.agg #[m_0_Hubsv, m_0_Routesv]]) (cs := []) [(0, 0), (1, 0)] rfl Try.call34 rfl (topo_places_ok n m_0 m_0_Hubsv m_0_Routesv hr4) (showsX_view 0 rfl views_ro (showsX_view 1 rfl views_nro showsX_nil)) rfl (.inl rfl)) ?_
 rintro _ _ ⟨_, ⟨v5, rfl, rfl⟩, rfl⟩
 refine ot rfl rfl (t_alloc Try.zeroValue85) ?_
 rintro _ _ ⟨b6, rfl, rfl⟩
 refine ot rfl rfl (t_store 5 Try.sizeOf85 rfl rfl rfl rfl (by simp [Value.cells, boxP]) (by simp [Value.cells, Value.oneCell', boxP])) ?_
 rintro _ _ ⟨rfl, rfl⟩
 refine ops_turn (retell 5 (g := box b6 [.map (some v5)]) rfl rfl) ?_
 refine ops_nil ?_
 refine goes_code ?_
 refine run_seq ?_
 refine run_region' ?_
 refine oy rfl rfl (y_makeFunc (vs := [boxP b2 0, boxP b1 0, boxP b6 0]) rfl) ?_
 refine oy rfl rfl (y_assign rfl) ?_
 refine ops_nil ?_
 refine goes_code ?_
 refine run_ret ?_
 obtain rfl := some_eq h
 refine fin_slots [4] [.func (.func 68) #[] #[boxP b2 0, boxP b1 0, boxP b6 0]] [3, 2, 4, 5] [box b2 [.int .i64 site_1], box b1 [m_0_Hubsv, m_0_Routesv], mapis v5 (mcells (fun n : Int => Value.int .i64 n) (fun n : Int => Value.int .i64 n) r3), box b6 [.map (some v5)]] Try.results40 rfl (by decide) rfl ?_
 exact ⟨_, _, _, _, rfl, rfl⟩

def topo_upward_1_68_L1 {St : Type} (yield_ : St → S_api_Hub → Option (St × Bool)) (a_2 : S_api_Map) (a_3 : (List (Int × Int))) : (St × Int) → Option (Lp (St × Int) (St × Int)) :=
 fun (x_1, x_2) =>
  cond (decide (x_2 ≠ (-1)))
   (idx a_2.Hubs ((mget a_3 x_2).getD 0) fun x8 =>
   obind (yield_ x_1 x8) fun r10 =>
   cond (!r10.2)
    (some (.stop (r10.1, x_2)))
    (some (.go (r10.1, x8.Parent))))
   (some (.stop (x_1, x_2)))
def topo_upward_1_68 {St : Type} (n : Nat) (yield_ : St → S_api_Hub → Option (St × Bool)) (s_ : St) (a_1 : Int) (a_2 : S_api_Map) (a_3 : (List (Int × Int))) : Option (St × Int) :=
 iter (topo_upward_1_68_L1 yield_ a_2 a_3) n (s_, a_1)
theorem topo_upward_1_68_ok {St : Type} (n : Nat) (yield_ : St → S_api_Hub → Option (St × Bool)) (s_ : St) (a_1 : Int) (a_2 : S_api_Map) (a_3 : (List (Int × Int))) (l : Nat) (A : St → HA) (hy : ∀ s x r, yield_ s x = some r → YMeets Try.prog l ((fun x => [.agg #[.int .i64 x.Site, .int .i64 x.Parent, .bool x.Up]]) x) (A s) r.2 (A r.1)) (a_1b : Nat) (a_2b : Nat) (a_2_Hubsv : Value) (a_2_Routesv : Value) (a_3b : Nat) (a_3r : Nat) {r : St × Int} (h : topo_upward_1_68 n yield_ s_ a_1 a_2 a_3 = some r) :
  Meets Try.prog 68 [.func (.yield l) #[] #[], boxP a_1b 0, boxP a_2b 0, boxP a_3b 0] [A s_, box a_1b [.int .i64 a_1], ro a_2_Hubsv 3 (a_2.Hubs.map S_api_Hub.enc), nro a_2_Routesv NC_api_Route_82 a_2.Routes, box a_2b [a_2_Hubsv, a_2_Routesv], mapis a_3r (mcells (fun n : Int => Value.int .i64 n) (fun n : Int => Value.int .i64 n) a_3), box a_3b [.map (some a_3r)]] (fun v G => v = .tuple #[] ∧ G = [A r.1, box a_1b [.int .i64 r.2], box a_2b [a_2_Hubsv, a_2_Routesv], mapis a_3r (mcells (fun n : Int => Value.int .i64 n) (fun n : Int => Value.int .i64 n) a_3), box a_3b [.map (some a_3r)]]) := by
 refine fn_of_run Try.func68 rfl Try.ntmps68 rfl (fun w0 o0 => ?_)
 refine run_block ?_
 refine run_iter (step := topo_upward_1_68_L1 yield_ a_2 a_3) (n := n) (s0 := (s_, a_1)) h (G := Unit) () (fun σ γ => [(0, .func (.yield l) #[] #[]), (1, boxP a_1b 0), (2, boxP a_2b 0), (3, boxP a_3b 0)]) (fun σ γ => [A σ.1, box a_1b [.int .i64 σ.2], box a_2b [a_2_Hubsv, a_2_Routesv], ro a_2_Hubsv 3 (a_2.Hubs.map S_api_Hub.enc), nro a_2_Routesv NC_api_Route_82 a_2.Routes, box a_3b [.map (some a_3r)], mapis a_3r (mcells (fun n : Int => Value.int .i64 n) (fun n : Int => Value.int .i64 n) a_3)]) [0, 1, 4, 2, 3, 6, 5] (qv4 rfl rfl rfl rfl) (by decide) rfl ?_
 rintro ⟨x_1, x_2⟩ _ o3 h L6 hgo4 hstop5
 change Run _ _ _ (VF.of [(0, .func (.yield l) #[] #[]), (1, boxP a_1b 0), (2, boxP a_2b 0), (3, boxP a_3b 0)]) [A x_1, box a_1b [.int .i64 x_2], box a_2b [a_2_Hubsv, a_2_Routesv], ro a_2_Hubsv 3 (a_2.Hubs.map S_api_Hub.enc), nro a_2_Routesv NC_api_Route_82 a_2.Routes, box a_3b [.map (some a_3r)], mapis a_3r (mcells (fun n : Int => Value.int .i64 n) (fun n : Int => Value.int .i64 n) a_3)]
 refine run_seq ?_
 refine run_seq ?_
 refine run_region' ?_
 refine oy rfl rfl (y_load_box 1 Try.isAgg3 rfl rfl rfl) ?_
 refine oy rfl rfl (y_neq rfl rfl) ?_
 refine ops_nil ?_
 refine goes_code ?_
 refine run_cond (decide (x_2 ≠ (-1))) rfl (fun hc7 => ?_) (fun hc7 => ?_)
 ·replace h := cond_t h hc7
  refine run_skip ?_
  refine goes_code ?_
  refine run_block ?_
  refine run_seq ?_
  refine run_region' ?_
  refine oy rfl rfl (y_fieldAddr_box (sz := 0) Try.runUnderlying25 rfl Try.sizeOf22 rfl) ?_
  refine oy rfl rfl (y_load_box 2 Try.isAgg22 rfl rfl rfl) ?_
  refine oy rfl rfl (y_load_box 5 Try.isAgg85 rfl rfl rfl) ?_
  refine oy rfl rfl (y_load_box 1 Try.isAgg3 rfl rfl rfl) ?_
  refine oy rfl rfl (y_lookup (k := x_2) (d0 := 0) 6 (key_int .i64) Try.runUnderlying85 Try.runUnderlying3 Try.zeroValue3 rfl rfl rfl) ?_
  obtain ⟨x8, hzx8, hlx8, hxx8, h⟩ := idx_some h
  refine oy rfl rfl (y_indexAddrI (kd := .i64) (i := ((mget a_3 x_2).getD 0)) 3 Try.runUnderlying22 Try.sizeOf52 rfl rfl rfl reads_ro hzx8 (map_lt hlx8)) ?_
  refine oy rfl rfl (y_load_agg (i := (((mget a_3 x_2).getD 0)).toNat) (c := [.int .i64 x8.Site, .int .i64 x8.Parent, .bool x8.Up]) 3 Try.isAgg52 Try.sizeOf52 rfl rfl reads_ro (map_get hxx8)) ?_
  refine ot rfl rfl (t_alloc Try.zeroValue52) ?_
  rintro _ _ ⟨b9, rfl, rfl⟩
  refine ot rfl rfl (t_store 7 Try.sizeOf52 rfl rfl rfl rfl (by simp [Value.cells, boxP]) (by simp [Value.cells, Value.oneCell', boxP])) ?_
  rintro _ _ ⟨rfl, rfl⟩
  refine ops_turn (retell 7 (g := box b9 [.int .i64 x8.Site, .int .i64 x8.Parent, .bool x8.Up]) rfl rfl) ?_
  refine ops_nil ?_
  refine goes_code ?_
  refine run_seq ?_
  refine run_seq ?_
  refine run_weak [(0, .func (.yield l) #[] #[]), (1, boxP a_1b 0), (2, boxP a_2b 0), (3, boxP a_3b 0), (5, boxP b9 0)] [0, 1, 2, 3, 4, 5, 6, 7] [A x_1, box a_1b [.int .i64 x_2], box a_2b [a_2_Hubsv, a_2_Routesv], ro a_2_Hubsv 3 (a_2.Hubs.map S_api_Hub.enc), nro a_2_Routesv NC_api_Route_82 a_2.Routes, box a_3b [.map (some a_3r)], mapis a_3r (mcells (fun n : Int => Value.int .i64 n) (fun n : Int => Value.int .i64 n) a_3), box b9 [.int .i64 x8.Site, .int .i64 x8.Parent, .bool x8.Up]] (qv5 rfl rfl rfl rfl rfl) (by decide) rfl ?_
  refine run_region' ?_
  refine oy rfl rfl (y_move rfl) ?_
  refine oy rfl rfl (y_load_boxagg (c := [.int .i64 x8.Site, .int .i64 x8.Parent, .bool x8.Up]) 7 Try.isAgg52 Try.sizeOf52 rfl rfl rfl) ?_
  obtain ⟨r10, hr11, h⟩ := obind_some h
  refine ops_r (wn rfl) rfl (t_yield (vs := [.agg #[.int .i64 x8.Site, .int .i64 x8.Parent, .bool x8.Up]]) 0 rfl rfl rfl (hy _ _ _ hr11)) ?_
  rintro _ _ ⟨rfl, rfl⟩
  refine oy rfl rfl (y_not rfl) ?_
  refine ops_nil ?_
  refine goes_code ?_
  refine run_cond (!r10.2) rfl (fun hc12 => ?_) (fun hc12 => ?_)
  ·replace h := cond_t h hc12
   refine run_ret ?_
   obtain rfl := some_eq h
   obtain rfl := hstop5 _ rfl
   refine fin_slots [] [] [0, 1, 2, 6, 5] [A r10.1, box a_1b [.int .i64 x_2], box a_2b [a_2_Hubsv, a_2_Routesv], mapis a_3r (mcells (fun n : Int => Value.int .i64 n) (fun n : Int => Value.int .i64 n) a_3), box a_3b [.map (some a_3r)]] Try.results68 rfl (by decide) rfl ?_
   exact ⟨rfl, rfl⟩
  ·replace h := cond_f h hc12
   refine run_skip ?_
   refine goes_code ?_
   refine run_region' ?_
   refine oy rfl rfl (y_fieldAddr_box (sz := 0) Try.runUnderlying52 rfl Try.sizeOf3 rfl) ?_
   refine oy rfl rfl (y_load_box 7 Try.isAgg3 rfl rfl rfl) ?_
   refine ot rfl rfl (t_store 1 Try.sizeOf3 rfl rfl rfl rfl (by simp [Value.cells, boxP]) (by simp [Value.cells, Value.oneCell', boxP])) ?_
   rintro _ _ ⟨rfl, rfl⟩
   refine ops_turn (retell 1 (g := box a_1b [.int .i64 x8.Parent]) rfl rfl) ?_
   refine ops_nil ?_
   refine goes_blk ?_
   obtain rfl := some_eq h
   exact goes_iter hgo4 (r10.1, x8.Parent) () [0, 1, 2, 3, 4, 5, 6] rfl (qv4 rfl rfl rfl rfl) (by decide) rfl
 ·replace h := cond_f h hc7
  refine run_exit _ rfl ?_
  refine goes_nil ?_
  obtain rfl := some_eq h
  obtain rfl := hstop5 _ rfl
  refine fin_slots [] [] [0, 1, 2, 6, 5] [A x_1, box a_1b [.int .i64 x_2], box a_2b [a_2_Hubsv, a_2_Routesv], mapis a_3r (mcells (fun n : Int => Value.int .i64 n) (fun n : Int => Value.int .i64 n) a_3), box a_3b [.map (some a_3r)]] Try.results68 rfl (by decide) rfl ?_
  exact ⟨rfl, rfl⟩

def topo_Climb_R1 : ((List Int)) → S_api_Hub → Option (((List Int)) × Option Nat) :=
 fun x_16 x15 =>
  cond x15.Up
   (need (x_16.length + ([x15.Site] : List Int).length ≤ 4294967296) (
   some ((x_16 ++ ([x15.Site] : List Int)), none)))
   (some (x_16, none))
def topo_Climb (n : Nat) (m_0 : S_api_Map) (site_1 : Int) : Option ((List Int) × Int) :=
 obind (topo_ValidMap n m_0) fun r2 =>
 cond (!r2)
  (some (([] : List Int), 1))
  (obind (topo_find n m_0 site_1) fun r5 =>
  cond (decide (r5 < 0))
   (some (([] : List Int), 5))
   (obind (topo_upward n m_0 site_1) fun r9 =>
   obind (topo_upward_1_68 n (yieldOf (topo_Climb_R1)) (([] : List Int), none) site_1 m_0 r9) fun r18 =>
   onJump r18.1.2 (
    some (r18.1.1, 0)) []))
theorem topo_Climb_ok (n : Nat) (m_0 : S_api_Map) (site_1 : Int) (m_0_Hubsv : Value) (m_0_Routesv : Value) {r : (List Int) × Int} (h : topo_Climb n m_0 site_1 = some r) :
  Meets Try.prog 11 [.agg #[m_0_Hubsv, m_0_Routesv], .int .i64 site_1] [ro m_0_Hubsv 3 (m_0.Hubs.map S_api_Hub.enc), nro m_0_Routesv NC_api_Route_82 m_0.Routes] (fun v G => ∃ v0, v = .tuple #[v0, .int .i64 r.2] ∧ G = [row v0 1 (r.1.map (eInt .i64))]) := by
 refine fn_of_run Try.func11 rfl Try.ntmps11 rfl (fun w0 o0 => ?_)
 refine run_seq ?_
 refine run_region' ?_
 refine ot rfl rfl (t_box rfl) ?_
 rintro _ _ ⟨b1, rfl, rfl⟩
 refine oy rfl rfl (y_assign rfl) ?_
 refine oy rfl rfl (y_assign rfl) ?_
 refine ops_nil ?_
 refine goes_code ?_
 refine run_seq ?_
 refine run_block ?_
 refine run_seq ?_
 refine run_region' ?_
 refine oy rfl rfl (y_load_boxagg (c := [m_0_Hubsv, m_0_Routesv]) 2 Try.isAgg25 Try.sizeOf25 rfl rfl rfl) ?_
 obtain ⟨r2, hr3, h⟩ := obind_some h
 refine ot rfl rfl (t_callx (vs := [.agg #[m_0_Hubsv, m_0_Routesv]]) (cs := []) [(0, 0), (1, 0)] rfl Try.call17 rfl (topo_ValidMap_ok n m_0 m_0_Hubsv m_0_Routesv hr3) (showsX_view 0 rfl views_ro (showsX_view 1 rfl views_nro showsX_nil)) rfl (.inl rfl)) ?_
 rintro _ _ ⟨_, ⟨rfl, rfl⟩, rfl⟩
 refine oy rfl rfl (y_not rfl) ?_
 refine oy rfl rfl (y_assign rfl) ?_
 refine ops_nil ?_
 refine goes_code ?_
 refine run_cond (!r2) rfl (fun hc4 => ?_) (fun hc4 => ?_)
 ·replace h := cond_t h hc4
  refine run_seq ?_
  refine run_region' ?_
  refine oy rfl rfl (y_assign rfl) ?_
  refine oy rfl rfl (y_assign rfl) ?_
  refine ops_nil ?_
  refine goes_code ?_
  refine run_ret ?_
  refine fin_turn (nilrow 1) ?_
  refine fin_turn (retell 3 (g := row (.slice none 0 0) 1 (([] : List Int).map (eInt .i64))) rfl rfl) ?_
  obtain rfl := some_eq h
  refine fin_slots [4, 5] [(.slice none 0 0), .int .i64 1] [3] [row (.slice none 0 0) 1 (([] : List Int).map (eInt .i64))] Try.results11 rfl (by decide) rfl ?_
  exact ⟨_, rfl, rfl⟩
 ·replace h := cond_f h hc4
  refine run_seq ?_
  refine run_region' ?_
  refine oy rfl rfl (y_load_boxagg (c := [m_0_Hubsv, m_0_Routesv]) 2 Try.isAgg25 Try.sizeOf25 rfl rfl rfl) ?_
  refine oy rfl rfl (y_move rfl) ?_
  obtain ⟨r5, hr6, h⟩ := obind_some h
  refine ot rfl rfl (t_callx (vs := [.agg #[m_0_Hubsv, m_0_Routesv], .int .i64 site_1]) (cs := []) [(0, 0), (1, 0)] rfl Try.call39 rfl (topo_find_ok n m_0 site_1 m_0_Hubsv m_0_Routesv hr6) (showsX_view 0 rfl views_ro (showsX_view 1 rfl views_nro showsX_nil)) rfl (.inl rfl)) ?_
  rintro _ _ ⟨_, ⟨rfl, rfl⟩, rfl⟩
  refine oy rfl rfl (y_lss rfl rfl) ?_
  refine oy rfl rfl (y_assign rfl) ?_
  refine ops_nil ?_
  refine goes_code ?_
  refine run_cond (decide (r5 < 0)) rfl (fun hc7 => ?_) (fun hc7 => ?_)
  ·replace h := cond_t h hc7
   refine run_seq ?_
   refine run_weak [] [] [] vnil (by decide) rfl ?_
   refine run_region' ?_
   refine oy rfl rfl (y_assign rfl) ?_
   refine oy rfl rfl (y_assign rfl) ?_
   refine ops_nil ?_
   refine goes_code ?_
   refine run_ret ?_
   refine fin_turn (nilrow 1) ?_
   refine fin_turn (retell 0 (g := row (.slice none 0 0) 1 (([] : List Int).map (eInt .i64))) rfl rfl) ?_
   obtain rfl := some_eq h
   refine fin_slots [4, 5] [(.slice none 0 0), .int .i64 5] [0] [row (.slice none 0 0) 1 (([] : List Int).map (eInt .i64))] Try.results11 rfl (by decide) rfl ?_
   exact ⟨_, rfl, rfl⟩
  ·replace h := cond_f h hc7
   refine run_skip ?_
   refine goes_blk ?_
   refine goes_code ?_
   refine run_seq ?_
   refine run_weak [(1, .int .i64 site_1), (2, boxP b1 0)] [0, 1, 2] [ro m_0_Hubsv 3 (m_0.Hubs.map S_api_Hub.enc), nro m_0_Routesv NC_api_Route_82 m_0.Routes, box b1 [m_0_Hubsv, m_0_Routesv]] (qv2 rfl rfl) (by decide) rfl ?_
   refine run_region' ?_
   refine ot rfl rfl (t_alloc Try.zeroValue35) ?_
   rintro _ _ ⟨b8, rfl, rfl⟩
   refine ops_nil ?_
   refine goes_code ?_
   refine run_seq ?_
   refine run_seq ?_
   refine run_region' ?_
   refine oy rfl rfl (y_load_boxagg (c := [m_0_Hubsv, m_0_Routesv]) 2 Try.isAgg25 Try.sizeOf25 rfl rfl rfl) ?_
   refine oy rfl rfl (y_move rfl) ?_
   obtain ⟨r9, hr10, h⟩ := obind_some h
   refine ot rfl rfl (t_callx (vs := [.agg #[m_0_Hubsv, m_0_Routesv], .int .i64 site_1]) (cs := []) [(0, 0), (1, 0)] rfl Try.call40 rfl (topo_upward_ok n m_0 site_1 m_0_Hubsv m_0_Routesv hr10) (showsX_view 0 rfl views_ro (showsX_view 1 rfl views_nro showsX_nil)) rfl (.inl rfl)) ?_
   rintro _ _ ⟨_, ⟨v11, v12, v13, v14, rfl, rfl⟩, rfl⟩
   refine ops_nil ?_
   refine goes_code ?_
   refine run_block ?_
   refine run_weak [(6, boxP b8 0), (19, .func (.func 68) #[] #[boxP v11 0, boxP v12 0, boxP v14 0])] [0, 1, 3, 4, 5, 6, 7] [ro m_0_Hubsv 3 (m_0.Hubs.map S_api_Hub.enc), nro m_0_Routesv NC_api_Route_82 m_0.Routes, box b8 [.slice none 0 0], box v11 [.int .i64 site_1], box v12 [m_0_Hubsv, m_0_Routesv], mapis v13 (mcells (fun n : Int => Value.int .i64 n) (fun n : Int => Value.int .i64 n) r9), box v14 [.map (some v13)]] (qv2 rfl rfl) (by decide) rfl ?_
   refine run_turn (nilrow 1) ?_
   refine run_turn (retell 7 (g := row (.slice none 0 0) 1 (([] : List Int).map (eInt .i64))) rfl rfl) ?_
   obtain ⟨r18, hr19, h⟩ := obind_some h
   refine run_rangeFunc (S := (List Int)) (G := Value) (jumps := []) (Hs := fun σ γ => [box b8 [γ], row γ 1 (σ.map (eInt .i64))]) (step := (topo_Climb_R1)) (ps := [20]) (Gr := [box v11 [.int .i64 r18.2], box v12 [m_0_Hubsv, m_0_Routesv], mapis v13 (mcells (fun n : Int => Value.int .i64 n) (fun n : Int => Value.int .i64 n) r9), box v14 [.map (some v13)]]) (fun x => [.agg #[.int .i64 x.Site, .int .i64 x.Parent, .bool x.Up]]) ([] : List Int) (.slice none 0 0) [2, 7] [(3, 2), (0, 0), (1, 0), (4, 2), (5, 2), (6, 2)] (r := r18.1) rfl rfl Try.call68 (fun _ => rfl) rfl (by decide) rfl ?_ (fun l A hy => topo_upward_1_68_ok n (yieldOf (topo_Climb_R1)) (([] : List Int), none) site_1 m_0 r9 l A hy v11 v12 m_0_Hubsv m_0_Routesv v14 v13 hr19) (showsX_lend 3 rfl (showsX_view 0 rfl views_ro (showsX_view 1 rfl views_nro (showsX_lend 4 rfl (showsX_lend 5 rfl (showsX_lend 6 rfl showsX_nil)))))) rfl rfl ?_ ?_
   ·rintro l x_16 x15 sN jN hN v17 w0 o0 L hL
    obtain ⟨pN, hp⟩ : ∃ pN, pN = (sN, jN) := ⟨_, rfl⟩
    rw [← hp] at hN
    replace h := hN
    clear hN
    change Run _ _ _ (VF.of [(20, .agg #[.int .i64 x15.Site, .int .i64 x15.Parent, .bool x15.Up]), (6, boxP b8 0), (19, .func (.func 68) #[] #[boxP v11 0, boxP v12 0, boxP v14 0])]) [box b8 [v17], row v17 1 (x_16.map (eInt .i64))]
    refine run_weak [(6, boxP b8 0), (20, .agg #[.int .i64 x15.Site, .int .i64 x15.Parent, .bool x15.Up])] [0, 1] [box b8 [v17], row v17 1 (x_16.map (eInt .i64))] (qv2 rfl rfl) (by decide) rfl ?_
    refine run_region' ?_
    refine ot rfl rfl (t_alloc Try.zeroValue52) ?_
    rintro _ _ ⟨b20, rfl, rfl⟩
    refine ot rfl rfl (t_store 2 Try.sizeOf52 rfl rfl rfl rfl (by simp [Value.cells, boxP]) (by simp [Value.cells, Value.oneCell', boxP])) ?_
    rintro _ _ ⟨rfl, rfl⟩
    refine ops_turn (retell 2 (g := box b20 [.int .i64 x15.Site, .int .i64 x15.Parent, .bool x15.Up]) rfl rfl) ?_
    refine ops_nil ?_
    refine goes_round hL (fun w1 o1 => ?_)
    refine run_block ?_
    refine run_seq ?_
    refine run_region' ?_
    refine oy rfl rfl (y_fieldAddr_box (sz := 0) Try.runUnderlying52 rfl Try.sizeOf4 rfl) ?_
    refine oy rfl rfl (y_load_box 2 Try.isAgg4 rfl rfl rfl) ?_
    refine ops_nil ?_
    refine goes_code ?_
    refine run_cond x15.Up rfl (fun hc21 => ?_) (fun hc21 => ?_)
    ·replace h := cond_t h hc21
     refine run_region' ?_
     refine oy rfl rfl (y_load_box 0 Try.isAgg35 rfl rfl rfl) ?_
     refine oy rfl rfl (y_fieldAddr_box (sz := 0) Try.runUnderlying52 rfl Try.sizeOf3 rfl) ?_
     refine oy rfl rfl (y_load_box 2 Try.isAgg3 rfl rfl rfl) ?_
     refine ot rfl rfl (t_lit [.int .i64 x15.Site] Try.runUnderlying35 Try.sizeOf3 Try.zeroValue3 rfl (by decide) (by decide) rfl (by simp [Value.cells, boxP])) ?_
     rintro v22 _ ⟨rfl, _⟩
     refine ops_turn (retell 3 (g := row v22 1 (([x15.Site] : List Int).map (eInt .i64))) rfl rfl) ?_
     obtain ⟨hr24, h⟩ := need_some h
     refine ot rfl rfl (t_append (es := 1) 1 rfl Try.runUnderlying35 rfl Try.runUnderlying35 (.inr ⟨_, rfl⟩) Try.typeInfo3 rfl (by decide) Try.zeroValue3 rfl rfl rfl rfl (src_reads 3 rfl reads_row (map_ok (eInt_ok _) _)) (map_room hr24 (by decide)) (map_fit hr24)) ?_
     rintro v23 _ rfl
     refine ops_turn (retell 1 (g := row v23 1 ((x_16 ++ ([x15.Site] : List Int)).map (eInt .i64))) rfl (congrArg (row _ _) List.map_append.symm)) ?_
     refine ops_slc 1 rfl reads_row (fun hs25 hs25o => ?_)
     refine ot rfl rfl (t_store 0 Try.sizeOf35 rfl rfl rfl (by rw [hs25]; rfl) (by simp [Value.cells, boxP]) (by rw [hs25]; exact allL_cons hs25o (allL_nil))) ?_
     rintro _ _ ⟨rfl, rfl⟩
     refine ops_turn (retell 0 (g := box b8 [v23]) rfl (by rw [hs25]; rfl)) ?_
     refine ops_nil ?_
     refine goes_blk ?_
     obtain rfl := some_eq h
     obtain ⟨rfl, rfl⟩ := Prod.mk.inj hp
     exact round_go v23 [0, 1] (by decide) rfl rfl
    ·replace h := cond_f h hc21
     refine run_skip ?_
     refine goes_blk ?_
     obtain rfl := some_eq h
     obtain ⟨rfl, rfl⟩ := Prod.mk.inj hp
     exact round_go v17 [0, 1] (by decide) rfl rfl
   ·intro hn γ
    replace h := onJump_none hn h
    change Goes _ _ (VF.of [(6, boxP b8 0), (19, .func (.func 68) #[] #[boxP v11 0, boxP v12 0, boxP v14 0])]) [ro m_0_Hubsv 3 (m_0.Hubs.map S_api_Hub.enc), nro m_0_Routesv NC_api_Route_82 m_0.Routes, HA.emp, HA.emp, HA.emp, HA.emp, HA.emp, HA.emp, box v11 [.int .i64 r18.2], box v12 [m_0_Hubsv, m_0_Routesv], mapis v13 (mcells (fun n : Int => Value.int .i64 n) (fun n : Int => Value.int .i64 n) r9), box v14 [.map (some v13)], box b8 [γ], row γ 1 (r18.1.1.map (eInt .i64))]
    refine goes_blk ?_
    refine goes_code ?_
    refine run_seq ?_
    refine run_region' ?_
    refine oy rfl rfl (y_load_box 12 Try.isAgg35 rfl rfl rfl) ?_
    refine oy rfl rfl (y_assign rfl) ?_
    refine oy rfl rfl (y_assign rfl) ?_
    refine ops_nil ?_
    refine goes_code ?_
    refine run_ret ?_
    obtain rfl := some_eq h
    refine fin_slots [4, 5] [γ, .int .i64 0] [13] [row γ 1 (r18.1.1.map (eInt .i64))] Try.results11 rfl (by decide) rfl ?_
    exact ⟨_, rfl, rfl⟩
   ·intro iJ hi
    obtain ⟨xJ, hx, h⟩ := onJump_some hi h
    simp at hx

def ref42_SameList_L1 (a_0 : (List Int)) (b_1 : (List Int)) : (Int) → Option (Lp (Int) (Lp (Unit) (Bool))) :=
 fun i_6 =>
  cond (decide (i_6 < (a_0.length : Int)))
   (idx a_0 i_6 fun x12 =>
   idx b_1 i_6 fun x13 =>
   cond (decide (x12 ≠ x13))
    (some (.stop (.stop false)))
    (some (.go (IntKind.i64.wrap (i_6 + 1)))))
   (some (.stop (.go ())))
def ref42_SameList (n : Nat) (a_0 : (List Int)) (b_1 : (List Int)) : Option (Bool) :=
 cond (decide ((a_0.length : Int) ≠ (b_1.length : Int)))
  (some false)
  (bindJ (S := Unit)
   (iter (ref42_SameList_L1 a_0 b_1) n 0)
  (fun _ =>
   some true))
theorem ref42_SameList_ok (n : Nat) (a_0 : (List Int)) (b_1 : (List Int)) (a_0v : Value) (b_1v : Value) {r : Bool} (h : ref42_SameList n a_0 b_1 = some r) :
  Meets Try.prog 19 [a_0v, b_1v] [ro a_0v 1 (a_0.map (eInt .i64)), ro b_1v 1 (b_1.map (eInt .i64))] (fun v G => v = .bool r ∧ G = []) := by
 refine fn_of_run Try.func19 rfl Try.ntmps19 rfl (fun w0 o0 => ?_)
 refine run_seq ?_
 refine run_region' ?_
 refine oy rfl rfl (y_assign rfl) ?_
 refine ops_nil ?_
 refine goes_code ?_
 refine run_seq ?_
 refine run_seq ?_
 refine run_region' ?_
 refine oy rfl rfl (y_move rfl) ?_
 refine oy rfl rfl ((y_len 0 rfl Try.runUnderlying35 rfl rfl reads_ro).to (v_len (eInt .i64) _)) ?_
 refine oy rfl rfl (y_move rfl) ?_
 refine oy rfl rfl ((y_len 1 rfl Try.runUnderlying35 rfl rfl reads_ro).to (v_len (eInt .i64) _)) ?_
 refine oy rfl rfl (y_neq rfl rfl) ?_
 refine ops_nil ?_
 refine goes_code ?_
 refine run_cond (decide ((a_0.length : Int) ≠ (b_1.length : Int))) rfl (fun hc1 => ?_) (fun hc1 => ?_)
 ·replace h := cond_t h hc1
  refine run_seq ?_
  refine run_region' ?_
  refine oy rfl rfl (y_assign rfl) ?_
  refine ops_nil ?_
  refine goes_code ?_
  refine run_ret ?_
  obtain rfl := some_eq h
  refine fin_slots [4] [.bool false] [] [] Try.results19 rfl (by decide) rfl ?_
  exact ⟨rfl, rfl⟩
 ·replace h := cond_f h hc1
  refine run_skip ?_
  refine goes_code ?_
  obtain ⟨o2, h, ho3⟩ := bindJ_some h
  refine run_cut ((Unit) × (Unit)) (fun σ => []) (fun σ => []) (fun σ => o2 = .go σ.1) (fun L5 hL4 => ?_) ?_
  ·
   refine run_seq ?_
   refine run_region' ?_
   refine oy rfl rfl (y_assign rfl) ?_
   refine ops_nil ?_
   refine goes_code ?_
   refine run_block ?_
   refine run_iter (step := ref42_SameList_L1 a_0 b_1) (n := n) (s0 := 0) h (G := Unit) () (fun σ γ => [(0, a_0v), (1, b_1v), (5, .int .i64 σ)]) (fun σ γ => [ro a_0v 1 (a_0.map (eInt .i64)), ro b_1v 1 (b_1.map (eInt .i64))]) [0, 1] (qv3 rfl rfl rfl) (by decide) rfl ?_
   rintro i_6 _ o7 h L10 hgo8 hstop9
   change Run _ _ _ (VF.of [(0, a_0v), (1, b_1v), (5, .int .i64 i_6)]) [ro a_0v 1 (a_0.map (eInt .i64)), ro b_1v 1 (b_1.map (eInt .i64))]
   refine run_seq ?_
   refine run_seq ?_
   refine run_region' ?_
   refine oy rfl rfl (y_move rfl) ?_
   refine oy rfl rfl (y_move rfl) ?_
   refine oy rfl rfl ((y_len 0 rfl Try.runUnderlying35 rfl rfl reads_ro).to (v_len (eInt .i64) _)) ?_
   refine oy rfl rfl (y_lss rfl rfl) ?_
   refine ops_nil ?_
   refine goes_code ?_
   refine run_cond (decide (i_6 < (a_0.length : Int))) rfl (fun hc11 => ?_) (fun hc11 => ?_)
   ·replace h := cond_t h hc11
    refine run_skip ?_
    refine goes_code ?_
    refine run_seq ?_
    refine run_block ?_
    refine run_seq ?_
    refine run_draw (by kernel_rfl) (by kernel_rfl) ?_
    refine sy rfl rfl (y_move rfl) ?_
    refine sy rfl rfl (y_move rfl) ?_
    obtain ⟨x12, hzx12, hlx12, hxx12, h⟩ := idx_some h
    refine sy rfl rfl (y_indexAddrI (kd := .i64) (i := i_6) 0 Try.runUnderlying35 Try.sizeOf3 rfl rfl rfl reads_ro hzx12 (map_lt hlx12)) ?_
    refine sy rfl rfl (y_load_elem (i := i_6.toNat) 0 Try.isAgg3 rfl rfl reads_ro (map_get hxx12)) ?_
    refine sy rfl rfl (y_move rfl) ?_
    refine sy rfl rfl (y_move rfl) ?_
    obtain ⟨x13, hzx13, hlx13, hxx13, h⟩ := idx_some h
    refine sy rfl rfl (y_indexAddrI (kd := .i64) (i := i_6) 1 Try.runUnderlying35 Try.sizeOf3 rfl rfl rfl reads_ro hzx13 (map_lt hlx13)) ?_
    refine sy rfl rfl (y_load_elem (i := i_6.toNat) 1 Try.isAgg3 rfl rfl reads_ro (map_get hxx13)) ?_
    refine sy rfl rfl (y_neq rfl rfl) ?_
    refine still_nil ?_
    refine goes_code ?_
    refine run_cond (decide (x12 ≠ x13)) rfl (fun hc14 => ?_) (fun hc14 => ?_)
    ·replace h := cond_t h hc14
     refine run_seq ?_
     refine run_weak [] [] [] vnil (by decide) rfl ?_
     refine run_region' ?_
     refine oy rfl rfl (y_assign rfl) ?_
     refine ops_nil ?_
     refine goes_code ?_
     refine run_ret ?_
     obtain rfl := some_eq h
     obtain rfl := hstop9 _ rfl
     skip
     obtain rfl := after_stop ho3
     refine fin_slots [4] [.bool false] [] [] Try.results19 rfl (by decide) rfl ?_
     exact ⟨rfl, rfl⟩
    ·replace h := cond_f h hc14
     refine run_skip ?_
     refine goes_blk ?_
     refine goes_code ?_
     refine run_weak [(0, a_0v), (1, b_1v), (5, .int .i64 i_6)] [0, 1] [ro a_0v 1 (a_0.map (eInt .i64)), ro b_1v 1 (b_1.map (eInt .i64))] (qv3 rfl rfl rfl) (by decide) rfl ?_
     refine run_region' ?_
     refine oy rfl rfl (y_move rfl) ?_
     refine oy rfl rfl (y_add rfl rfl) ?_
     refine oy rfl rfl (y_assign rfl) ?_
     refine ops_nil ?_
     obtain rfl := some_eq h
     exact goes_iter hgo8 (IntKind.i64.wrap (i_6 + 1)) () [0, 1] rfl (qv3 rfl rfl rfl) (by decide) rfl
   ·replace h := cond_f h hc11
    refine run_exit _ rfl ?_
    obtain rfl := some_eq h
    obtain rfl := hstop9 _ rfl
    exact goes_cut hL4 ((), ()) [] vnil (by decide) rfl rfl
  rintro ⟨_, _⟩ hj
  obtain rfl : o2 = _ := hj
  replace h := after_go ho3
  clear ho3
  change Run _ _ _ (VF.of []) []
  refine run_seq ?_
  refine run_region' ?_
  refine oy rfl rfl (y_assign rfl) ?_
  refine ops_nil ?_
  refine goes_code ?_
  refine run_ret ?_
  obtain rfl := some_eq h
  refine fin_slots [4] [.bool true] [] [] Try.results19 rfl (by decide) rfl ?_
  exact ⟨rfl, rfl⟩

end Go.Proofs.Ytigiikkenamneaa
