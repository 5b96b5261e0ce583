/-
  Texts that stand side by side: ReplL, TablL, AbsPlain, ReplP, OnceL, ReplH.
-/
import Derived.Test.YtgibkdldfnlglaaGreatDoorM1
import Derived.Test.YtgibkdldfnlglaaGreatDoorM0
import Derived.Test.YtgibkdldfnlglaaGreatDoorProg
import Derived.Tactics
import Derived.Tactics2
import Derived.Defers
import Derived.Laws.Pointers
import Derived.Laws.LoneSync
import Derived.RegionTactic
import Derived.RegionCalls
import Derived.ChangeAlike
import Derived.Laws.NewBlocks
namespace Go.Proofs.YtgibkdldfnlglaaGreatDoor
open Go.Abs
set_option maxRecDepth 20000
set_option maxHeartbeats 1000000
set_option linter.unusedSimpArgs false
def newReplH (l : List (List UInt8)) : Option Unit := need (l.length = 4) (some ())
def tab0 : List Value := List.replicate 256 (.slice none 0 0)
/-- the table of the two signs that are replaced, and the list of them -/
def tabV (a c t : Value) : List Value := ((tab0.set 92 a).set 34 c) ++ [t]
/-- the Replacer when its table is made -/
abbrev replA (b : Nat) (x0 x1 x2 : Int) (c : Nat) (v1 v2 v3 : Value) : List HA :=
  [box b [.int .u32 x0, .int .i32 x1, .int .u32 x2, .iface 176 (boxP c 0), .slice none 0 0], box c (tabV v1 v2 v3), row v1 1 (u8c [92, 92]), row v2 1 (u8c [92, 34]), row v3 1 (([[92], [34]] : List (List UInt8)).map eStr)]
theorem tab_one {x : Value} (h : x.oneCell' = true) : ∀ u ∈ tab0 ++ [x], u.oneCell' = true := by
  intro u hu
  rcases List.mem_append.1 hu with hu | hu
  · obtain rfl := List.eq_of_mem_replicate hu
    rfl
  · obtain rfl := List.mem_singleton.1 hu
    exact h
theorem wrL_one (vs : List Value) (n : Nat) {v : Value} (h : v.cells = #[v]) (_ : n < vs.length) : wrL vs n v.cells.toList = vs.set n v := by
  rw [h]
  simp [wrL, writeAt]
theorem y_nilnil {V : VF} {H : List HA} {P : Program} {d : Option Nat} {ty : TypeId} {pos : String} {af : Array Edge} {g : Option (Nat × Bool)} {T el U : TypeId} {x y : Operand} (hu : ∀ w, (underlying T).run P w = .ok (.slice el) w)
    (hx : V.ev x = some (.slice none 0 0)) (hy : V.ev y = some (.slice none 0 0)) : OpY P ⟨d, .binOp .eql T x y U, ty, pos, af, g⟩ V H (.bool true) := by
  intro ρ w o hf _ _
  simp [execOp, hf x _ hx, hf y _ hy, eqGuard, binOp, run_equal_slice hu]
theorem newReplH_ok (a_0 : List (List UInt8)) (a_0v : Value) {r : Unit} (h : newReplH a_0 = some r) : Meets Tryz.prog 67 [a_0v] [ro a_0v 1 (a_0.map eStr)] (fun v G => ∃ v0 v1, v = boxP v1 0 ∧ G = [row v0 1 (a_0.map eStr), box v1 [.int .u32 0, .int .i32 0, .int .u32 0, .nilIface, v0]]) := by
  obtain ⟨hl, _⟩ := need_some h
  refine fn_of_run Tryz.func67 rfl Tryz.ntmps67 rfl (fun w0 o0 => ?_)
  refine run_seq ?_
  refine run_region' ?_
  refine oy rfl rfl (y_assign rfl) ?_
  refine ops_nil ?_
  refine goes_code ?_
  refine run_seq ?_
  refine run_seq ?_
  refine run_region' ?_
  refine oy rfl rfl (y_move rfl) ?_
  refine oy rfl rfl ((y_len 0 rfl Tryz.runUnderlying39 rfl rfl reads_ro).to (v_len eStr _)) ?_
  refine oy rfl rfl (y_rem rfl rfl (by decide)) ?_
  refine oy rfl rfl (y_eql rfl rfl) ?_
  refine ops_nil ?_
  refine goes_code ?_
  refine run_cond (decide (((a_0.length : Int).tmod 2) = 1)) rfl (fun hc => ?_) (fun hc => ?_)
  · rw [hl] at hc; exact absurd hc (by decide)
  refine run_skip ?_
  refine goes_code ?_
  refine run_seq ?_
  refine run_region' ?_
  refine oy rfl rfl (y_move rfl) ?_
  refine ops_turn (nilrow 1) ?_
  have hr : ([] : List (List UInt8)).length + a_0.length ≤ 4294967296 := by simp [hl]
  refine ot rfl rfl (t_append (es := 1) (v := .slice none 0 0) (cells := ([] : List (List UInt8)).map eStr) 1 rfl Tryz.runUnderlying39 rfl Tryz.runUnderlying39 (.inr ⟨_, rfl⟩) Tryz.typeInfo9 rfl (by decide) Tryz.zeroValue9 rfl rfl rfl rfl (src_reads 0 rfl reads_ro (map_ok eStr_ok _)) (map_room hr (by decide)) (map_fit hr)) ?_
  rintro v1 _ rfl
  refine ops_slc 1 rfl reads_row (fun hs hso => ?_)
  refine oy rfl rfl (y_build_struct (cells := #[.int .u32 0, .int .i32 0, .int .u32 0, .nilIface, v1]) [(2, v1)] [(2, [v1])] Tryz.zeroValue128 Tryz.runUnderlying128 (fs_cons Tryz.sizeOf124 (fs_cons Tryz.sizeOf126 (fs_cons Tryz.sizeOf39 fs_nil))) rfl (by simp [hs]) rfl) ?_
  refine ot rfl rfl (t_box rfl) ?_
  rintro _ _ ⟨b, rfl, rfl⟩
  refine oy rfl rfl (y_assign rfl) ?_
  refine ops_nil ?_
  refine goes_code ?_
  refine run_ret ?_
  refine fin_slots [2] [boxP b 0] [1, 2] [row v1 1 (a_0.map eStr), box b [.int .u32 0, .int .i32 0, .int .u32 0, .nilIface, v1]] Tryz.results67 rfl (by decide) rfl ?_
  exact ⟨_, _, rfl, rfl⟩
theorem build_ok (b : Nat) (on rif : Value) (x0 x1 x2 : Int) : Meets Tryz.prog 101 [boxP b 0] [row on 1 (([[34], [92, 34], [92], [92, 92]] : List (List UInt8)).map eStr), box b [.int .u32 x0, .int .i32 x1, .int .u32 x2, rif, on]] (fun v G => ∃ c v1 v2 v3, v = .iface 176 (boxP c 0) ∧ G = [row on 1 (([[34], [92, 34], [92], [92, 92]] : List (List UInt8)).map eStr), box b [.int .u32 x0, .int .i32 x1, .int .u32 x2, rif, on], box c (tabV v1 v2 v3), row v1 1 (u8c [92, 92]), row v2 1 (u8c [92, 34]), row v3 1 (([[92], [34]] : List (List UInt8)).map eStr)]) := by
  refine fn_of_run Tryz.func101 rfl Tryz.ntmps101 rfl (fun w0 o0 => ?_)
  refine run_seq ?_
  refine run_region' ?_
  refine oy rfl rfl (y_assign rfl) ?_
  refine ops_nil ?_
  refine goes_code ?_
  refine run_seq ?_
  refine run_region' ?_
  refine oy rfl rfl (y_move rfl) ?_
  refine oy rfl rfl (y_nilBox rfl) ?_
  refine oy rfl rfl (y_fieldAddr_box (sz := 0) Tryz.runUnderlying128 rfl Tryz.sizeOf39 rfl) ?_
  refine oy rfl rfl (y_load_box 1 Tryz.isAgg39 rfl rfl rfl) ?_
  refine oy rfl rfl (y_assign rfl) ?_
  refine ops_nil ?_
  refine goes_code ?_
  refine run_seq ?_
  refine run_seq ?_
  refine run_region' ?_
  refine oy rfl rfl (y_move rfl) ?_
  refine oy rfl rfl ((y_len 0 rfl Tryz.runUnderlying39 rfl rfl reads_row).to (v_len eStr _)) ?_
  refine oy rfl rfl (y_eql rfl rfl) ?_
  refine oy rfl rfl (y_move rfl) ?_
  refine ops_no 3 true 22 rfl rfl rfl rfl rfl ?_
  refine ops_no 3 true 22 rfl rfl rfl rfl rfl ?_
  refine ops_no 3 true 22 rfl rfl rfl rfl rfl ?_
  refine ops_no 3 true 22 rfl rfl rfl rfl rfl ?_
  refine ops_no 3 true 22 rfl rfl rfl rfl rfl ?_
  refine oy rfl rfl (y_pick (b := false) rfl rfl) ?_
  refine ops_nil ?_
  refine goes_code ?_
  refine run_cond_f rfl ?_
  refine run_skip ?_
  refine goes_code ?_
  refine run_seq ?_
  refine run_region' ?_
  refine oy rfl rfl (y_assign rfl) ?_
  refine ops_nil ?_
  refine goes_code ?_
  refine run_seq ?_
  refine run_seq ?_
  refine run_region' ?_
  refine oy rfl rfl (y_assign rfl) ?_
  refine ops_nil ?_
  refine goes_code ?_
  refine run_block ?_
  refine run_times 4 ?_
  refine run_seq ?_
  refine run_seq ?_
  refine run_region' ?_
  refine oy rfl rfl (y_move rfl) ?_
  refine oy rfl rfl (y_move rfl) ?_
  refine oy rfl rfl ((y_len 0 rfl Tryz.runUnderlying39 rfl rfl reads_row).to (v_len eStr _)) ?_
  refine oy rfl rfl (y_lss rfl rfl) ?_
  refine ops_nil ?_
  refine goes_code ?_
  refine run_cond_t rfl ?_
  refine run_skip ?_
  refine goes_code ?_
  refine run_seq ?_
  refine run_block ?_
  refine run_weak [(3, on), (4, .bool true), (5, .int .i64 0)] [0, 1] [row on 1 (([[34], [92, 34], [92], [92, 92]] : List (List UInt8)).map eStr), box b [.int .u32 x0, .int .i32 x1, .int .u32 x2, rif, on]] (vcons rfl (vcons rfl (vcons rfl vnil))) (by decide) rfl ?_
  refine run_seq ?_
  refine run_seq ?_
  refine run_region' ?_
  refine oy rfl rfl (y_move rfl) ?_
  refine oy rfl rfl (y_move rfl) ?_
  refine oy rfl rfl (y_indexAddrI (kd := .i64) (i := 0) 0 Tryz.runUnderlying39 Tryz.sizeOf9 rfl rfl rfl reads_row (by decide) (by decide)) ?_
  refine oy rfl rfl (y_load_elem (i := (0 : Int).toNat) 0 Tryz.isAgg9 rfl rfl reads_row rfl) ?_
  refine oy rfl rfl (y_len_str rfl Tryz.runUnderlying9 rfl) ?_
  refine oy rfl rfl (y_neq rfl rfl) ?_
  refine ops_nil ?_
  refine goes_code ?_
  refine run_cond_f rfl ?_
  refine run_skip ?_
  refine goes_code ?_
  refine run_seq ?_
  refine run_region' ?_
  refine oy rfl rfl (y_move rfl) ?_
  refine oy rfl rfl (y_move rfl) ?_
  refine oy rfl rfl (y_add rfl rfl) ?_
  refine oy rfl rfl (y_indexAddrI (kd := .i64) (i := 1) 0 Tryz.runUnderlying39 Tryz.sizeOf9 rfl rfl rfl reads_row (by decide) (by decide)) ?_
  refine oy rfl rfl (y_load_elem (i := (1 : Int).toNat) 0 Tryz.isAgg9 rfl rfl reads_row rfl) ?_
  refine oy rfl rfl (y_len_str rfl Tryz.runUnderlying9 rfl) ?_
  refine oy rfl rfl (y_neq rfl rfl) ?_
  refine ops_nil ?_
  refine goes_code ?_
  refine run_cond_t rfl ?_
  refine run_region' ?_
  refine oy rfl rfl (y_assign rfl) ?_
  refine ops_nil ?_
  refine goes_blk ?_
  refine goes_code ?_
  refine run_region' ?_
  refine oy rfl rfl (y_move rfl) ?_
  refine oy rfl rfl (y_add rfl rfl) ?_
  refine oy rfl rfl (y_assign rfl) ?_
  refine ops_nil ?_
  refine goes_times ?_
  refine run_seq ?_
  refine run_seq ?_
  refine run_region' ?_
  refine oy rfl rfl (y_move rfl) ?_
  refine oy rfl rfl (y_move rfl) ?_
  refine oy rfl rfl ((y_len 0 rfl Tryz.runUnderlying39 rfl rfl reads_row).to (v_len eStr _)) ?_
  refine oy rfl rfl (y_lss rfl rfl) ?_
  refine ops_nil ?_
  refine goes_code ?_
  refine run_cond_t rfl ?_
  refine run_skip ?_
  refine goes_code ?_
  refine run_seq ?_
  refine run_block ?_
  refine run_weak [(3, on), (4, .bool false), (5, .int .i64 2)] [0, 1] [row on 1 (([[34], [92, 34], [92], [92, 92]] : List (List UInt8)).map eStr), box b [.int .u32 x0, .int .i32 x1, .int .u32 x2, rif, on]] (vcons rfl (vcons rfl (vcons rfl vnil))) (by decide) rfl ?_
  refine run_seq ?_
  refine run_seq ?_
  refine run_region' ?_
  refine oy rfl rfl (y_move rfl) ?_
  refine oy rfl rfl (y_move rfl) ?_
  refine oy rfl rfl (y_indexAddrI (kd := .i64) (i := 2) 0 Tryz.runUnderlying39 Tryz.sizeOf9 rfl rfl rfl reads_row (by decide) (by decide)) ?_
  refine oy rfl rfl (y_load_elem (i := (2 : Int).toNat) 0 Tryz.isAgg9 rfl rfl reads_row rfl) ?_
  refine oy rfl rfl (y_len_str rfl Tryz.runUnderlying9 rfl) ?_
  refine oy rfl rfl (y_neq rfl rfl) ?_
  refine ops_nil ?_
  refine goes_code ?_
  refine run_cond_f rfl ?_
  refine run_skip ?_
  refine goes_code ?_
  refine run_seq ?_
  refine run_region' ?_
  refine oy rfl rfl (y_move rfl) ?_
  refine oy rfl rfl (y_move rfl) ?_
  refine oy rfl rfl (y_add rfl rfl) ?_
  refine oy rfl rfl (y_indexAddrI (kd := .i64) (i := 3) 0 Tryz.runUnderlying39 Tryz.sizeOf9 rfl rfl rfl reads_row (by decide) (by decide)) ?_
  refine oy rfl rfl (y_load_elem (i := (3 : Int).toNat) 0 Tryz.isAgg9 rfl rfl reads_row rfl) ?_
  refine oy rfl rfl (y_len_str rfl Tryz.runUnderlying9 rfl) ?_
  refine oy rfl rfl (y_neq rfl rfl) ?_
  refine ops_nil ?_
  refine goes_code ?_
  refine run_cond_t rfl ?_
  refine run_region' ?_
  refine oy rfl rfl (y_assign rfl) ?_
  refine ops_nil ?_
  refine goes_blk ?_
  refine goes_code ?_
  refine run_region' ?_
  refine oy rfl rfl (y_move rfl) ?_
  refine oy rfl rfl (y_add rfl rfl) ?_
  refine oy rfl rfl (y_assign rfl) ?_
  refine ops_nil ?_
  refine goes_times ?_
  refine run_seq ?_
  refine run_seq ?_
  refine run_region' ?_
  refine oy rfl rfl (y_move rfl) ?_
  refine oy rfl rfl (y_move rfl) ?_
  refine oy rfl rfl ((y_len 0 rfl Tryz.runUnderlying39 rfl rfl reads_row).to (v_len eStr _)) ?_
  refine oy rfl rfl (y_lss rfl rfl) ?_
  refine ops_nil ?_
  refine goes_code ?_
  refine run_cond_f rfl ?_
  refine run_exit _ rfl ?_
  refine goes_code ?_
  refine run_weak [(3, on), (4, .bool false)] [0, 1] [row on 1 (([[34], [92, 34], [92], [92, 92]] : List (List UInt8)).map eStr), box b [.int .u32 x0, .int .i32 x1, .int .u32 x2, rif, on]] (vcons rfl (vcons rfl vnil)) (by decide) rfl ?_
  refine run_seq ?_
  refine run_seq ?_
  refine run_region' ?_
  refine oy rfl rfl (y_move rfl) ?_
  refine ops_nil ?_
  refine goes_code ?_
  refine run_cond_f rfl ?_
  refine run_skip ?_
  refine goes_code ?_
  refine run_seq ?_
  refine run_region' ?_
  refine oy rfl rfl (y_move rfl) ?_
  refine oy rfl rfl ((y_len 0 rfl Tryz.runUnderlying39 rfl rfl reads_row).to (v_len eStr _)) ?_
  refine oy rfl rfl (y_quo rfl rfl (by decide)) ?_
  refine ot rfl rfl (t_makeCap (n := 2) Tryz.runUnderlying39 Tryz.typeInfo9 rfl Tryz.zeroValue9 rfl (by decide) rfl rfl (by decide) (by decide) (by decide)) ?_
  rintro _ _ ⟨⟨ta, tc, rfl⟩, rfl⟩
  refine oy rfl rfl (y_build_struct (cells := (tab0 ++ [Value.slice ta 0 tc]).toArray) [(1, .slice ta 0 tc)] [(1, [.slice ta 0 tc])] Tryz.zeroValue175 Tryz.runUnderlying175 (fs_cons Tryz.sizeOf173 (fs_cons Tryz.sizeOf39 fs_nil)) rfl rfl (by kernel_rfl)) ?_
  refine ot rfl rfl (t_alloc Tryz.zeroValue175) ?_
  rintro _ _ ⟨c, rfl, rfl⟩
  refine ot rfl rfl (t_store_all (b := c) (c := tab0 ++ [.slice ta 0 tc]) 3 Tryz.sizeOf175 rfl rfl rfl (by kernel_rfl) (by kernel_rfl) (tab_one rfl)) ?_
  rintro _ _ ⟨rfl, rfl⟩
  refine ops_nil ?_
  refine goes_code ?_
  refine run_seq ?_
  refine run_seq ?_
  refine run_region' ?_
  refine oy rfl rfl (y_move rfl) ?_
  refine oy rfl rfl ((y_len 0 rfl Tryz.runUnderlying39 rfl rfl reads_row).to (v_len eStr _)) ?_
  refine oy rfl rfl (y_sub rfl rfl) ?_
  refine oy rfl rfl (y_assign rfl) ?_
  refine ops_nil ?_
  refine goes_code ?_
  refine run_block ?_
  refine run_times 4 ?_
  refine run_seq ?_
  refine run_seq ?_
  refine run_region' ?_
  refine oy rfl rfl (y_move rfl) ?_
  refine oy rfl rfl (y_geq rfl rfl) ?_
  refine ops_nil ?_
  refine goes_code ?_
  refine run_cond_t rfl ?_
  refine run_skip ?_
  refine goes_code ?_
  refine run_seq ?_
  refine run_block ?_
  refine run_weak [(3, on), (11, boxP c 0), (12, .int .i64 2)] [0, 1, 2, 3] [row on 1 (([[34], [92, 34], [92], [92, 92]] : List (List UInt8)).map eStr), box b [.int .u32 x0, .int .i32 x1, .int .u32 x2, rif, on], row (.slice ta 0 tc) 1 (([] : List (List UInt8)).map eStr), box c (tab0 ++ [Value.slice ta 0 tc])] (vcons rfl (vcons rfl (vcons rfl vnil))) (by decide) rfl ?_
  refine run_seq ?_
  refine run_region' ?_
  refine oy rfl rfl (y_move rfl) ?_
  refine oy rfl rfl (y_move rfl) ?_
  refine oy rfl rfl (y_indexAddrI (kd := .i64) (i := 2) 0 Tryz.runUnderlying39 Tryz.sizeOf9 rfl rfl rfl reads_row (by decide) (by decide)) ?_
  refine oy rfl rfl (y_load_elem (i := (2 : Int).toNat) 0 Tryz.isAgg9 rfl rfl reads_row rfl) ?_
  refine oy rfl rfl (y_index_strI (b := 92) (kd := .i64) (i := 0) Tryz.runUnderlying9 rfl rfl (by decide) rfl) ?_
  refine oy rfl rfl (y_assign rfl) ?_
  refine ops_nil ?_
  refine goes_code ?_
  refine run_seq ?_
  refine run_region' ?_
  refine oy rfl rfl (y_move rfl) ?_
  refine oy rfl rfl (y_move rfl) ?_
  refine oy rfl rfl (y_add rfl rfl) ?_
  refine oy rfl rfl (y_indexAddrI (kd := .i64) (i := 3) 0 Tryz.runUnderlying39 Tryz.sizeOf9 rfl rfl rfl reads_row (by decide) (by decide)) ?_
  refine oy rfl rfl (y_load_elem (i := (3 : Int).toNat) 0 Tryz.isAgg9 rfl rfl reads_row rfl) ?_
  refine oy rfl rfl (y_assign rfl) ?_
  refine ops_nil ?_
  refine goes_code ?_
  refine run_seq ?_
  refine run_seq ?_
  refine run_region' ?_
  refine oy rfl rfl (y_move rfl) ?_
  refine oy rfl rfl (y_fieldAddr_box (sz := 255) Tryz.runUnderlying175 rfl Tryz.sizeOf173 rfl) ?_
  refine oy rfl rfl (y_indexAddr_box (n := 92) Tryz.runUnderlying173 Tryz.sizeOf47 rfl rfl (by decide)) ?_
  refine oy rfl rfl (y_load_box (r := .slice none 0 0) 3 Tryz.isAgg47 rfl rfl (by kernel_rfl)) ?_
  refine oy rfl rfl (y_nilnil Tryz.runUnderlying47 rfl rfl) ?_
  refine ops_nil ?_
  refine goes_code ?_
  refine run_cond_t rfl ?_
  refine run_region' ?_
  refine oy rfl rfl (y_fieldAddr_box (sz := 0) Tryz.runUnderlying175 rfl Tryz.sizeOf39 rfl) ?_
  refine oy rfl rfl (y_load_box (r := .slice ta 0 tc) 3 Tryz.isAgg39 rfl rfl (by kernel_rfl)) ?_
  refine oy rfl rfl (y_move rfl) ?_
  refine ot rfl rfl (t_lit [.int .u8 ((92 : UInt8).toNat : Int)] Tryz.runUnderlying47 Tryz.sizeOf5 Tryz.zeroValue5 rfl (by decide) (by decide) rfl (by simp [Value.cells, boxP])) ?_
  rintro p0 _ ⟨rfl, _⟩
  refine ops_turn (retell 4 (g := row p0 1 (u8c [92])) rfl rfl) ?_
  refine oy rfl rfl (y_b2s (l := [92]) 4 Tryz.runUnderlying47 Tryz.runUnderlying5 Tryz.runUnderlying9 rfl rfl reads_row) ?_
  refine ot rfl rfl (t_lit [.string (bs [92])] Tryz.runUnderlying39 Tryz.sizeOf9 Tryz.zeroValue9 rfl (by decide) (by decide) rfl (by simp [Value.cells, boxP])) ?_
  rintro q0 _ ⟨rfl, _⟩
  refine ops_turn (retell 5 (g := row q0 1 (([[92]] : List (List UInt8)).map eStr)) rfl rfl) ?_
  have hr0 : ([] : List (List UInt8)).length + ([[92]] : List (List UInt8)).length ≤ 4294967296 := by decide
  refine ot rfl rfl (t_append (es := 1) (cells := ([] : List (List UInt8)).map eStr) 2 rfl Tryz.runUnderlying39 rfl Tryz.runUnderlying39 (.inr ⟨_, rfl⟩) Tryz.typeInfo9 rfl (by decide) Tryz.zeroValue9 rfl rfl rfl rfl (src_reads 5 rfl reads_row (map_ok eStr_ok _)) (map_room hr0 (by decide)) (map_fit hr0)) ?_
  rintro t0 _ rfl
  refine ops_turn (retell 2 (g := row t0 1 (([[92]] : List (List UInt8)).map eStr)) rfl rfl) ?_
  refine ops_slc 2 rfl reads_row (fun hs0 hso0 => ?_)
  refine oy rfl rfl (y_fieldAddr_box (sz := 0) Tryz.runUnderlying175 rfl Tryz.sizeOf39 rfl) ?_
  have hs0O := hso0
  refine ot rfl rfl (t_store (b := c) (off := 0 + 256) (n := 1) (v := t0) (vs := tab0 ++ [Value.slice ta 0 tc]) 3 Tryz.sizeOf39 rfl rfl rfl (by rw [hs0]; rfl) (by simp [tab0]) (by simp [hs0, hs0O])) ?_
  rintro _ _ ⟨rfl, rfl⟩
  refine ops_turn (retell 3 (g := box c ((tab0 ++ [Value.slice ta 0 tc]).set (0 + 256) t0)) rfl (congrArg (box c) (wrL_one _ _ hs0 (by simp [tab0])))) ?_
  refine ops_nil ?_
  refine goes_code ?_
  refine run_region' ?_
  refine oy rfl rfl (y_move rfl) ?_
  refine oy rfl rfl (y_move rfl) ?_
  refine ot rfl rfl (t_s2b (l := [92, 92]) Tryz.underlying9 Tryz.underlying47 Tryz.underlying5 rfl (by decide)) ?_
  rintro _ _ ⟨⟨a0, c0, rfl⟩, rfl⟩
  refine oy rfl rfl (y_fieldAddr_box (sz := 255) Tryz.runUnderlying175 rfl Tryz.sizeOf173 rfl) ?_
  refine oy rfl rfl (y_indexAddr_box (n := 92) Tryz.runUnderlying173 Tryz.sizeOf47 rfl rfl (by decide)) ?_
  have hu0 : (Value.slice (some a0) 2 c0).cells = #[Value.slice (some a0) 2 c0] := rfl
  have hu0O : (Value.slice (some a0) 2 c0).oneCell' = true := rfl
  refine ot rfl rfl (t_store (b := c) (off := 0 + 92 * 1) (n := 1) (v := (.slice (some a0) 2 c0)) (vs := (tab0 ++ [Value.slice ta 0 tc]).set (0 + 256) t0) 3 Tryz.sizeOf47 rfl rfl rfl (by rw [hu0]; rfl) (by simp [tab0]) (by simp [hu0, hu0O])) ?_
  rintro _ _ ⟨rfl, rfl⟩
  refine ops_turn (retell 3 (g := box c (((tab0 ++ [Value.slice ta 0 tc]).set (0 + 256) t0).set (0 + 92 * 1) (.slice (some a0) 2 c0))) rfl (congrArg (box c) (wrL_one _ _ hu0 (by simp [tab0])))) ?_
  refine ops_nil ?_
  refine goes_blk ?_
  refine goes_code ?_
  refine run_region' ?_
  refine oy rfl rfl (y_move rfl) ?_
  refine oy rfl rfl (y_sub rfl rfl) ?_
  refine oy rfl rfl (y_assign rfl) ?_
  refine ops_nil ?_
  refine goes_times ?_
  refine run_seq ?_
  refine run_seq ?_
  refine run_region' ?_
  refine oy rfl rfl (y_move rfl) ?_
  refine oy rfl rfl (y_geq rfl rfl) ?_
  refine ops_nil ?_
  refine goes_code ?_
  refine run_cond_t rfl ?_
  refine run_skip ?_
  refine goes_code ?_
  refine run_seq ?_
  refine run_block ?_
  refine run_weak [(3, on), (11, boxP c 0), (12, .int .i64 0)] [0, 1, 2, 3, 6] [row on 1 (([[34], [92, 34], [92], [92, 92]] : List (List UInt8)).map eStr), box b [.int .u32 x0, .int .i32 x1, .int .u32 x2, rif, on], row t0 1 (([[92]] : List (List UInt8)).map eStr), box c (((tab0 ++ [Value.slice ta 0 tc]).set (0 + 256) t0).set (0 + 92 * 1) (.slice (some a0) 2 c0)), row (.slice (some a0) 2 c0) 1 (u8c [92, 92])] (vcons rfl (vcons rfl (vcons rfl vnil))) (by decide) rfl ?_
  refine run_seq ?_
  refine run_region' ?_
  refine oy rfl rfl (y_move rfl) ?_
  refine oy rfl rfl (y_move rfl) ?_
  refine oy rfl rfl (y_indexAddrI (kd := .i64) (i := 0) 0 Tryz.runUnderlying39 Tryz.sizeOf9 rfl rfl rfl reads_row (by decide) (by decide)) ?_
  refine oy rfl rfl (y_load_elem (i := (0 : Int).toNat) 0 Tryz.isAgg9 rfl rfl reads_row rfl) ?_
  refine oy rfl rfl (y_index_strI (b := 34) (kd := .i64) (i := 0) Tryz.runUnderlying9 rfl rfl (by decide) rfl) ?_
  refine oy rfl rfl (y_assign rfl) ?_
  refine ops_nil ?_
  refine goes_code ?_
  refine run_seq ?_
  refine run_region' ?_
  refine oy rfl rfl (y_move rfl) ?_
  refine oy rfl rfl (y_move rfl) ?_
  refine oy rfl rfl (y_add rfl rfl) ?_
  refine oy rfl rfl (y_indexAddrI (kd := .i64) (i := 1) 0 Tryz.runUnderlying39 Tryz.sizeOf9 rfl rfl rfl reads_row (by decide) (by decide)) ?_
  refine oy rfl rfl (y_load_elem (i := (1 : Int).toNat) 0 Tryz.isAgg9 rfl rfl reads_row rfl) ?_
  refine oy rfl rfl (y_assign rfl) ?_
  refine ops_nil ?_
  refine goes_code ?_
  refine run_seq ?_
  refine run_seq ?_
  refine run_region' ?_
  refine oy rfl rfl (y_move rfl) ?_
  refine oy rfl rfl (y_fieldAddr_box (sz := 255) Tryz.runUnderlying175 rfl Tryz.sizeOf173 rfl) ?_
  refine oy rfl rfl (y_indexAddr_box (n := 34) Tryz.runUnderlying173 Tryz.sizeOf47 rfl rfl (by decide)) ?_
  refine oy rfl rfl (y_load_box (r := .slice none 0 0) 3 Tryz.isAgg47 rfl rfl (by kernel_rfl)) ?_
  refine oy rfl rfl (y_nilnil Tryz.runUnderlying47 rfl rfl) ?_
  refine ops_nil ?_
  refine goes_code ?_
  refine run_cond_t rfl ?_
  refine run_region' ?_
  refine oy rfl rfl (y_fieldAddr_box (sz := 0) Tryz.runUnderlying175 rfl Tryz.sizeOf39 rfl) ?_
  refine oy rfl rfl (y_load_box (r := t0) 3 Tryz.isAgg39 rfl rfl (by kernel_rfl)) ?_
  refine oy rfl rfl (y_move rfl) ?_
  refine ot rfl rfl (t_lit [.int .u8 ((34 : UInt8).toNat : Int)] Tryz.runUnderlying47 Tryz.sizeOf5 Tryz.zeroValue5 rfl (by decide) (by decide) rfl (by simp [Value.cells, boxP])) ?_
  rintro p1 _ ⟨rfl, _⟩
  refine ops_turn (retell 5 (g := row p1 1 (u8c [34])) rfl rfl) ?_
  refine oy rfl rfl (y_b2s (l := [34]) 5 Tryz.runUnderlying47 Tryz.runUnderlying5 Tryz.runUnderlying9 rfl rfl reads_row) ?_
  refine ot rfl rfl (t_lit [.string (bs [34])] Tryz.runUnderlying39 Tryz.sizeOf9 Tryz.zeroValue9 rfl (by decide) (by decide) rfl (by simp [Value.cells, boxP])) ?_
  rintro q1 _ ⟨rfl, _⟩
  refine ops_turn (retell 6 (g := row q1 1 (([[34]] : List (List UInt8)).map eStr)) rfl rfl) ?_
  have hr1 : ([[92]] : List (List UInt8)).length + ([[34]] : List (List UInt8)).length ≤ 4294967296 := by decide
  refine ot rfl rfl (t_append (es := 1) (cells := ([[92]] : List (List UInt8)).map eStr) 2 rfl Tryz.runUnderlying39 rfl Tryz.runUnderlying39 (.inr ⟨_, rfl⟩) Tryz.typeInfo9 rfl (by decide) Tryz.zeroValue9 rfl rfl rfl rfl (src_reads 6 rfl reads_row (map_ok eStr_ok _)) (map_room hr1 (by decide)) (map_fit hr1)) ?_
  rintro t1 _ rfl
  refine ops_turn (retell 2 (g := row t1 1 (([[92], [34]] : List (List UInt8)).map eStr)) rfl rfl) ?_
  refine ops_slc 2 rfl reads_row (fun hs1 hso1 => ?_)
  refine oy rfl rfl (y_fieldAddr_box (sz := 0) Tryz.runUnderlying175 rfl Tryz.sizeOf39 rfl) ?_
  have hs1O := hso1
  refine ot rfl rfl (t_store (b := c) (off := 0 + 256) (n := 1) (v := t1) (vs := ((tab0 ++ [Value.slice ta 0 tc]).set (0 + 256) t0).set (0 + 92 * 1) (.slice (some a0) 2 c0)) 3 Tryz.sizeOf39 rfl rfl rfl (by rw [hs1]; rfl) (by simp [tab0]) (by simp [hs1, hs1O])) ?_
  rintro _ _ ⟨rfl, rfl⟩
  refine ops_turn (retell 3 (g := box c ((((tab0 ++ [Value.slice ta 0 tc]).set (0 + 256) t0).set (0 + 92 * 1) (.slice (some a0) 2 c0)).set (0 + 256) t1)) rfl (congrArg (box c) (wrL_one _ _ hs1 (by simp [tab0])))) ?_
  refine ops_nil ?_
  refine goes_code ?_
  refine run_region' ?_
  refine oy rfl rfl (y_move rfl) ?_
  refine oy rfl rfl (y_move rfl) ?_
  refine ot rfl rfl (t_s2b (l := [92, 34]) Tryz.underlying9 Tryz.underlying47 Tryz.underlying5 rfl (by decide)) ?_
  rintro _ _ ⟨⟨a1, c1, rfl⟩, rfl⟩
  refine oy rfl rfl (y_fieldAddr_box (sz := 255) Tryz.runUnderlying175 rfl Tryz.sizeOf173 rfl) ?_
  refine oy rfl rfl (y_indexAddr_box (n := 34) Tryz.runUnderlying173 Tryz.sizeOf47 rfl rfl (by decide)) ?_
  have hu1 : (Value.slice (some a1) 2 c1).cells = #[Value.slice (some a1) 2 c1] := rfl
  have hu1O : (Value.slice (some a1) 2 c1).oneCell' = true := rfl
  refine ot rfl rfl (t_store (b := c) (off := 0 + 34 * 1) (n := 1) (v := (.slice (some a1) 2 c1)) (vs := (((tab0 ++ [Value.slice ta 0 tc]).set (0 + 256) t0).set (0 + 92 * 1) (.slice (some a0) 2 c0)).set (0 + 256) t1) 3 Tryz.sizeOf47 rfl rfl rfl (by rw [hu1]; rfl) (by simp [tab0]) (by simp [hu1, hu1O])) ?_
  rintro _ _ ⟨rfl, rfl⟩
  refine ops_turn (retell 3 (g := box c (((((tab0 ++ [Value.slice ta 0 tc]).set (0 + 256) t0).set (0 + 92 * 1) (.slice (some a0) 2 c0)).set (0 + 256) t1).set (0 + 34 * 1) (.slice (some a1) 2 c1))) rfl (congrArg (box c) (wrL_one _ _ hu1 (by simp [tab0])))) ?_
  refine ops_nil ?_
  refine goes_blk ?_
  refine goes_code ?_
  refine run_region' ?_
  refine oy rfl rfl (y_move rfl) ?_
  refine oy rfl rfl (y_sub rfl rfl) ?_
  refine oy rfl rfl (y_assign rfl) ?_
  refine ops_nil ?_
  refine goes_times ?_
  refine run_seq ?_
  refine run_seq ?_
  refine run_region' ?_
  refine oy rfl rfl (y_move rfl) ?_
  refine oy rfl rfl (y_geq rfl rfl) ?_
  refine ops_nil ?_
  refine goes_code ?_
  refine run_cond_f rfl ?_
  refine run_exit _ rfl ?_
  refine goes_code ?_
  refine run_weak [(11, boxP c 0)] [0, 1, 2, 3, 4, 7] [row on 1 (([[34], [92, 34], [92], [92, 92]] : List (List UInt8)).map eStr), box b [.int .u32 x0, .int .i32 x1, .int .u32 x2, rif, on], row t1 1 (([[92], [34]] : List (List UInt8)).map eStr), box c (((((tab0 ++ [Value.slice ta 0 tc]).set (0 + 256) t0).set (0 + 92 * 1) (.slice (some a0) 2 c0)).set (0 + 256) t1).set (0 + 34 * 1) (.slice (some a1) 2 c1)), row (.slice (some a0) 2 c0) 1 (u8c [92, 92]), row (.slice (some a1) 2 c1) 1 (u8c [92, 34])] (vcons rfl vnil) (by decide) rfl ?_
  refine run_turn (retell 3 (g := box c (tabV (.slice (some a0) 2 c0) (.slice (some a1) 2 c1) t1)) rfl (congrArg (box c) (by kernel_rfl))) ?_
  refine run_seq ?_
  refine run_region' ?_
  refine oy rfl rfl (y_mkIface Tryz.runUnderlying176 rfl rfl) ?_
  refine oy rfl rfl (y_assign rfl) ?_
  refine ops_nil ?_
  refine goes_code ?_
  refine run_ret ?_
  refine fin_slots [2] [.iface 176 (boxP c 0)] [0, 1, 3, 4, 5, 2] [row on 1 (([[34], [92, 34], [92], [92, 92]] : List (List UInt8)).map eStr), box b [.int .u32 x0, .int .i32 x1, .int .u32 x2, rif, on], box c (tabV (.slice (some a0) 2 c0) (.slice (some a1) 2 c1) t1), row (.slice (some a0) 2 c0) 1 (u8c [92, 92]), row (.slice (some a1) 2 c1) 1 (u8c [92, 34]), row t1 1 (([[92], [34]] : List (List UInt8)).map eStr)] Tryz.results101 rfl (by decide) rfl ?_
  exact ⟨_, _, _, _, rfl, rfl⟩
theorem buildOnce_ok (b : Nat) (on rif : Value) (x0 x1 x2 : Int) : Meets Tryz.prog 86 [boxP b 0] [row on 1 (([[34], [92, 34], [92], [92, 92]] : List (List UInt8)).map eStr), box b [.int .u32 x0, .int .i32 x1, .int .u32 x2, rif, on]] (fun v G => v = .tuple #[] ∧ ∃ c v1 v2 v3, G = replA b x0 x1 x2 c v1 v2 v3) := by
  refine fn_of_run Tryz.func86 rfl Tryz.ntmps86 rfl (fun w0 o0 => ?_)
  refine run_seq ?_
  refine run_region' ?_
  refine oy rfl rfl (y_move rfl) ?_
  refine oy rfl rfl (y_move rfl) ?_
  refine ot rfl rfl (t_callx (vs := [boxP b 0]) (cs := []) [(0, 2), (1, 2)] rfl Tryz.call101 rfl (build_ok b on rif x0 x1 x2) (showsX_lend 0 rfl (showsX_lend 1 rfl showsX_nil)) rfl (.inl rfl)) ?_
  rintro _ _ ⟨_, ⟨c, v1, v2, v3, rfl, rfl⟩, rfl⟩
  refine oy rfl rfl (y_nilBox rfl) ?_
  refine oy rfl rfl (y_fieldAddr_box (sz := 0) Tryz.runUnderlying128 rfl Tryz.sizeOf126 rfl) ?_
  refine ot rfl rfl (t_store (b := b) (off := 3) 3 Tryz.sizeOf126 rfl rfl rfl rfl (by simp) (by simp [Value.cells, Value.oneCell', boxP])) ?_
  rintro _ _ ⟨rfl, rfl⟩
  refine ops_turn (retell 3 (g := box b [.int .u32 x0, .int .i32 x1, .int .u32 x2, .iface 176 (boxP c 0), on]) rfl rfl) ?_
  refine ops_nil ?_
  refine goes_code ?_
  refine run_region' ?_
  refine oy rfl rfl (y_move rfl) ?_
  refine oy rfl rfl (y_nilBox rfl) ?_
  refine oy rfl rfl (y_fieldAddr_box (sz := 0) Tryz.runUnderlying128 rfl Tryz.sizeOf39 rfl) ?_
  refine ot rfl rfl (t_store (b := b) (off := 4) 3 Tryz.sizeOf39 rfl rfl rfl rfl (by simp) (by simp [Value.cells, Value.oneCell', boxP])) ?_
  rintro _ _ ⟨rfl, rfl⟩
  refine ops_turn (retell 3 (g := box b [.int .u32 x0, .int .i32 x1, .int .u32 x2, .iface 176 (boxP c 0), .slice none 0 0]) rfl rfl) ?_
  refine ops_nil ?_
  refine goes_nil ?_
  refine fin_slots [] [] [3, 4, 5, 6, 7] (replA b x0 x1 x2 c v1 v2 v3) Tryz.results86 rfl (by decide) rfl ?_
  exact ⟨rfl, _, _, _, _, rfl⟩
end Go.Proofs.YtgibkdldfnlglaaGreatDoor
namespace Go.Proofs.YtgibkdldfnlglaaGreatDoor
open Go.Abs
set_option maxRecDepth 20000
set_option maxHeartbeats 4000000
set_option linter.unusedSimpArgs false
set_option linter.unusedVariables false
theorem cond3 {α : Type} {p q : Prop} [Decidable p] [Decidable q] {a b c : Option α} {r : α} (h : cond (decide p) a (cond (decide q) b c) = some r) : (p ∧ a = some r) ∨ (q ∧ b = some r) ∨ ((¬ p ∧ ¬ q) ∧ c = some r) := by
  by_cases hp : p
  · simp [hp] at h; exact .inl ⟨hp, h⟩
  · by_cases hq : q
    · simp [hp, hq] at h; exact .inr (.inl ⟨hq, h⟩)
    · simp [hp, hq] at h; exact .inr (.inr ⟨⟨hp, hq⟩, h⟩)
theorem u8_rng (c : UInt8) : 0 ≤ (c.toNat : Int) ∧ (c.toNat : Int) < ((256 : Nat) : Int) := by
  have := c.toNat_lt
  omega
theorem tab_34 {a c t : Value} {x : UInt8} (h : x = 34) : (tabV a c t)[0 + (x.toNat : Int).toNat * 1]? = some c := by subst h; rfl
theorem tab_92 {a c t : Value} {x : UInt8} (h : x = 92) : (tabV a c t)[0 + (x.toNat : Int).toNat * 1]? = some a := by subst h; rfl
theorem tab_no {a c t : Value} {x : UInt8} (h : ¬ x = 34 ∧ ¬ x = 92) : (tabV a c t)[0 + (x.toNat : Int).toNat * 1]? = some (.slice none 0 0) := by
  have h1 : x.toNat ≠ 34 := fun e => h.1 (UInt8.toNat_inj.1 e)
  have h2 : x.toNat ≠ 92 := fun e => h.2 (UInt8.toNat_inj.1 e)
  have h3 : x.toNat < 256 := x.toNat_lt
  simp only [Int.toNat_natCast, Nat.zero_add, Nat.mul_one]
  unfold tabV
  rw [List.getElem?_append_left (by rw [List.length_set, List.length_set]; unfold tab0; rw [List.length_replicate]; exact h3), List.getElem?_set_ne (Ne.symm h1), List.getElem?_set_ne (Ne.symm h2)]
  unfold tab0
  rw [List.getElem?_replicate, if_pos h3]
theorem tab_t (a c t : Value) : (tabV a c t)[256]? = some t := rfl
section
variable {V : VF} {H : List HA} {P : Program} {d : Option Nat} {ty : TypeId} {pos : String} {af : Array Edge} {g : Option (Nat × Bool)}
theorem y_nilneq {T el U : TypeId} {x y : Operand} (hu : ∀ w, (underlying T).run P w = .ok (.slice el) w)
    (hx : V.ev x = some (.slice none 0 0)) (hy : V.ev y = some (.slice none 0 0)) : OpY P ⟨d, .binOp .neq T x y U, ty, pos, af, g⟩ V H (.bool false) := by
  intro ρ w o hf _ _
  simp [execOp, hf x _ hx, hf y _ hy, eqGuard, binOp, run_equal_slice hu]
theorem y_isneq {T el U : TypeId} {x y : Operand} {v : Value} {es : Nat} {cells : List (List Value)} {h : HA} (m : Nat) (hu : ∀ w, (underlying T).run P w = .ok (.slice el) w)
    (hx : V.ev x = some v) (hy : V.ev y = some (.slice none 0 0)) (hm : H[m]? = some h) (hr : Reads h v es cells) (hne : cells ≠ []) :
    OpY P ⟨d, .binOp .neq T x y U, ty, pos, af, g⟩ V H (.bool true) := by
  intro ρ w o hf hbd hs
  obtain ⟨a, cap, e1, e2, e3, e4, e5⟩ := hr.is w o m (hs m h hm)
  subst e1
  have ha : a.isNone = false := by
    cases a with
    | some a => rfl
    | none =>
      have := e4 rfl
      exact absurd (List.length_eq_zero_iff.1 (by omega)) hne
  simp [execOp, hf x _ hx, hf y _ hy, eqGuard, binOp, run_equal_slice hu, ha]
end
def strings_byteStringReplacer_Replace_179_L1 (s_1 : (List UInt8)) : (Int × Bool × Int) → Option (Lp (Int × Bool × Int) (Lp (Int × Bool) ((List UInt8)))) :=
  fun (newSize_8, anyChanges_9, s_10) =>
    cond (decide (s_10 < 2))
      (bindJ (S := Int × Bool)
        (idx ([[92], [34]] : List (List UInt8)) s_10 fun x22 =>
        obind (countH s_1 x22) fun r23 =>
        cond (decide (r23 ≠ 0))
          (idx x22 0 fun c26 =>
          cond (decide (c26 = 34))
            (some (.go ((IntKind.i64.wrap (newSize_8 + (IntKind.i64.wrap (r23 * 1)))), true)))
          (cond (decide (c26 = 92))
            (some (.go ((IntKind.i64.wrap (newSize_8 + (IntKind.i64.wrap (r23 * 1)))), true)))
            (some (.go ((IntKind.i64.wrap (newSize_8 + (IntKind.i64.wrap (r23 * (-1))))), true)))))
          (some (.go (newSize_8, anyChanges_9))))
      (fun (newSize_16, anyChanges_17) =>
        some (.go (newSize_16, anyChanges_17, (IntKind.i64.wrap (s_10 + 1))))))
      (some (.stop (.go (newSize_8, anyChanges_9))))
def strings_byteStringReplacer_Replace_179_L2 (s_1 : (List UInt8)) : (Int × Bool × Int) → Option (Lp (Int × Bool × Int) (Lp (Int × Bool) ((List UInt8)))) :=
  fun (newSize_27, anyChanges_28, i_29) =>
    cond (decide (i_29 < (s_1.length : Int)))
      (bindJ (S := Int × Bool)
        (idx s_1 i_29 fun c41 =>
        cond (decide (c41 = 34))
          (some (.go ((IntKind.i64.wrap (newSize_27 + 1)), true)))
        (cond (decide (c41 = 92))
          (some (.go ((IntKind.i64.wrap (newSize_27 + 1)), true)))
          (some (.go (newSize_27, anyChanges_28)))))
      (fun (newSize_35, anyChanges_36) =>
        some (.go (newSize_35, anyChanges_36, (IntKind.i64.wrap (i_29 + 1))))))
      (some (.stop (.go (newSize_27, anyChanges_28))))
def strings_byteStringReplacer_Replace_179_L3 (s_1 : (List UInt8)) : (Int × Int × (List UInt8)) → Option (Lp (Int × Int × (List UInt8)) (Lp ((List UInt8)) ((List UInt8)))) :=
  fun (j_50, i_51, x_52) =>
    cond (decide (i_51 < (s_1.length : Int)))
      (bindJ (S := Int × (List UInt8))
        (idx s_1 i_51 fun c64 =>
        cond (decide (c64 = 34))
          (need (0 ≤ j_50 ∧ j_50 ≤ (x_52.length : Int) ∧ (x_52.length : Int) ≤ (x_52.length : Int)) (
          some (.go ((IntKind.i64.wrap (j_50 + ((min ([92, 34] : List UInt8).length ((((x_52.length : Int)).toNat) - j_50.toNat) : Nat) : Int))), (cpy x_52 j_50.toNat (((x_52.length : Int)).toNat) ([92, 34] : List UInt8))))))
        (cond (decide (c64 = 92))
          (need (0 ≤ j_50 ∧ j_50 ≤ (x_52.length : Int) ∧ (x_52.length : Int) ≤ (x_52.length : Int)) (
          some (.go ((IntKind.i64.wrap (j_50 + ((min ([92, 92] : List UInt8).length ((((x_52.length : Int)).toNat) - j_50.toNat) : Nat) : Int))), (cpy x_52 j_50.toNat (((x_52.length : Int)).toNat) ([92, 92] : List UInt8))))))
          (idx x_52 j_50 fun x67 =>
          some (.go ((IntKind.i64.wrap (j_50 + 1)), (x_52.set j_50.toNat c64))))))
      (fun (j_58, x_59) =>
        some (.go (j_58, (IntKind.i64.wrap (i_51 + 1)), x_59))))
      (some (.stop (.go x_52)))
def strings_byteStringReplacer_Replace_179 (n : Nat) (s_1 : (List UInt8)) : Option ((List UInt8)) :=
  bindJ (S := Int × Bool)
    (cond (decide (16 ≤ (s_1.length : Int)))
      (iter (strings_byteStringReplacer_Replace_179_L1 s_1) n ((s_1.length : Int), false, 0))
      (iter (strings_byteStringReplacer_Replace_179_L2 s_1) n ((s_1.length : Int), false, 0)))
  (fun (newSize_1, anyChanges_2) =>
    cond (!anyChanges_2)
      (some s_1)
      (need (0 ≤ newSize_1 ∧ newSize_1 ≤ 4294967296) (
      bindJ (S := (List UInt8))
        (iter (strings_byteStringReplacer_Replace_179_L3 s_1) n (0, 0, (List.replicate newSize_1.toNat (0 : UInt8))))
      (fun x_45 =>
        some x_45))))
theorem strings_byteStringReplacer_Replace_179_ok (n : Nat) (s_1 : (List UInt8)) (r_0b : Nat) (r_0a : Value) (r_0c : Value) (r_0t : Value) {r : (List UInt8)} (h : strings_byteStringReplacer_Replace_179 n s_1 = some r) :
    Meets Tryz.prog 179 [boxP r_0b 0, .string (bs s_1)] [ro r_0a 1 (([92, 92] : List UInt8).map eB8), ro r_0c 1 (([92, 34] : List UInt8).map eB8), ro r_0t 1 (([[92], [34]] : List (List UInt8)).map eStr), box r_0b (tabV r_0a r_0c r_0t)] (fun v G => v = .string (bs r) ∧ G = []) := by
  refine fn_of_run Tryz.func179 rfl Tryz.ntmps179 rfl (fun w0 o0 => ?_)
  refine run_seq ?_
  refine run_region' ?_
  refine oy rfl rfl (y_assign rfl) ?_
  refine ops_nil ?_
  refine goes_code ?_
  refine run_seq ?_
  refine run_region' ?_
  refine oy rfl rfl (y_move rfl) ?_
  refine oy rfl rfl (y_len_str rfl Tryz.runUnderlying9 rfl) ?_
  refine oy rfl rfl (y_assign rfl) ?_
  refine ops_nil ?_
  refine goes_code ?_
  refine run_seq ?_
  refine run_region' ?_
  refine oy rfl rfl (y_assign rfl) ?_
  refine ops_nil ?_
  refine goes_code ?_
  obtain ⟨o3, h, ho4⟩ := bindJ_some h
  refine run_cut ((Int × Bool) × (Unit)) (fun σ => [(5, .int .i64 σ.1.1), (6, .bool σ.1.2), (0, boxP r_0b 0), (1, .string (bs s_1))]) (fun σ => [box r_0b (tabV r_0a r_0c r_0t), ro r_0c 1 (([92, 34] : List UInt8).map eB8), ro r_0a 1 (([92, 92] : List UInt8).map eB8), ro r_0t 1 (([[92], [34]] : List (List UInt8)).map eStr)]) (fun σ => o3 = .go σ.1) (fun L6 hL5 => ?_) ?_
  · -- the ways through
    refine run_seq ?_
    refine run_region' ?_
    refine oy rfl rfl (y_move rfl) ?_
    refine oy rfl rfl (y_nilBox rfl) ?_
    refine oy rfl rfl (y_fieldAddr_box (sz := 0) Tryz.runUnderlying175 rfl Tryz.sizeOf39 rfl) ?_
    refine oy rfl rfl (y_load_box 3 Tryz.isAgg39 rfl rfl (tab_t _ _ _)) ?_
    refine oy rfl rfl ((y_len 2 rfl Tryz.runUnderlying39 rfl rfl reads_ro).to (v_len eStr _)) ?_
    refine oy rfl rfl (y_mul rfl rfl) ?_
    refine oy rfl rfl (y_move rfl) ?_
    refine oy rfl rfl (y_len_str rfl Tryz.runUnderlying9 rfl) ?_
    refine oy rfl rfl (y_leq rfl rfl) ?_
    refine ops_nil ?_
    refine goes_code ?_
    refine run_cond (decide (16 ≤ (s_1.length : Int))) rfl (fun hc7 => ?_) (fun hc7 => ?_)
    · replace h := cond_t h hc7
      refine run_seq ?_
      refine run_weak [(0, boxP r_0b 0), (1, .string (bs s_1)), (5, .int .i64 (s_1.length : Int)), (6, .bool false)] [0, 1, 2, 3] [ro r_0a 1 (([92, 92] : List UInt8).map eB8), ro r_0c 1 (([92, 34] : List UInt8).map eB8), ro r_0t 1 (([[92], [34]] : List (List UInt8)).map eStr), box r_0b (tabV r_0a r_0c r_0t)] (qv4 rfl rfl rfl rfl) (by decide) rfl ?_
      refine run_region' ?_
      refine oy rfl rfl (y_move rfl) ?_
      refine oy rfl rfl (y_nilBox rfl) ?_
      refine oy rfl rfl (y_fieldAddr_box (sz := 0) Tryz.runUnderlying175 rfl Tryz.sizeOf39 rfl) ?_
      refine oy rfl rfl (y_load_box 3 Tryz.isAgg39 rfl rfl (tab_t _ _ _)) ?_
      refine oy rfl rfl ((y_len 2 rfl Tryz.runUnderlying39 rfl rfl reads_ro).to (v_len eStr _)) ?_
      refine oy rfl rfl (y_move rfl) ?_
      refine ops_nil ?_
      refine goes_code ?_
      refine run_block ?_
      refine run_iter (step := strings_byteStringReplacer_Replace_179_L1 s_1) (n := n) (s0 := ((s_1.length : Int), false, 0)) h (G := Unit) () (fun σ γ => [(5, .int .i64 σ.1), (6, .bool σ.2.1), (32, .int .i64 σ.2.2), (0, boxP r_0b 0), (1, .string (bs s_1)), (30, r_0t), (31, .int .i64 2)]) (fun σ γ => [box r_0b (tabV r_0a r_0c r_0t), ro r_0c 1 (([92, 34] : List UInt8).map eB8), ro r_0a 1 (([92, 92] : List UInt8).map eB8), ro r_0t 1 (([[92], [34]] : List (List UInt8)).map eStr)]) [3, 1, 0, 2] (qv7 rfl rfl rfl rfl rfl rfl rfl) (by decide) rfl ?_
      rintro ⟨newSize_8, anyChanges_9, s_10⟩ _ o11 h L14 hgo12 hstop13
      change Run _ _ _ (VF.of [(5, .int .i64 newSize_8), (6, .bool anyChanges_9), (32, .int .i64 s_10), (0, boxP r_0b 0), (1, .string (bs s_1)), (30, r_0t), (31, .int .i64 2)]) [box r_0b (tabV r_0a r_0c r_0t), ro r_0c 1 (([92, 34] : List UInt8).map eB8), ro r_0a 1 (([92, 92] : List UInt8).map eB8), ro r_0t 1 (([[92], [34]] : List (List UInt8)).map eStr)]
      refine run_seq ?_
      refine run_region' ?_
      refine oy rfl rfl (y_lss rfl rfl) ?_
      refine ops_nil ?_
      refine goes_code ?_
      refine run_seq ?_
      refine run_cond (decide (s_10 < 2)) rfl (fun hc15 => ?_) (fun hc15 => ?_)
      · replace h := cond_t h hc15
        refine run_skip ?_
        refine goes_code ?_
        obtain ⟨o18, h, ho19⟩ := bindJ_some h
        refine run_cut ((Int × Bool) × (Unit)) (fun σ => [(5, .int .i64 σ.1.1), (6, .bool σ.1.2), (0, boxP r_0b 0), (1, .string (bs s_1)), (30, r_0t), (31, .int .i64 2), (32, .int .i64 s_10)]) (fun σ => [box r_0b (tabV r_0a r_0c r_0t), ro r_0c 1 (([92, 34] : List UInt8).map eB8), ro r_0a 1 (([92, 92] : List UInt8).map eB8), ro r_0t 1 (([[92], [34]] : List (List UInt8)).map eStr)]) (fun σ => o18 = .go σ.1) (fun L21 hL20 => ?_) ?_
        · -- the ways through
          refine run_block ?_
          refine run_seq ?_
          refine run_region' ?_
          obtain ⟨x22, hzx22, hlx22, hxx22, h⟩ := idx_some h
          refine oy rfl rfl (y_indexAddrI (kd := .i64) (i := s_10) 3 Tryz.runUnderlying39 Tryz.sizeOf9 rfl rfl rfl reads_ro hzx22 (map_lt hlx22)) ?_
          refine oy rfl rfl (y_load_elem (i := s_10.toNat) 3 Tryz.isAgg9 rfl rfl reads_ro (map_get hxx22)) ?_
          refine oy rfl rfl (y_assign rfl) ?_
          refine ops_nil ?_
          refine goes_code ?_
          refine run_seq ?_
          refine run_region' ?_
          refine oy rfl rfl (y_move rfl) ?_
          refine oy rfl rfl (y_move rfl) ?_
          obtain ⟨r23, hr24, h⟩ := obind_some h
          refine ot rfl rfl (t_callx (vs := [.string (bs s_1), .string (bs x22)]) (cs := []) [] rfl Tryz.call31 rfl (countH_ok  s_1 x22  hr24) showsX_nil rfl (.inl rfl)) ?_
          rintro _ _ ⟨_, ⟨rfl, rfl⟩, rfl⟩
          refine oy rfl rfl (y_assign rfl) ?_
          refine ops_nil ?_
          refine goes_code ?_
          refine run_seq ?_
          refine run_weak [(5, .int .i64 newSize_8), (6, .bool anyChanges_9), (32, .int .i64 s_10), (0, boxP r_0b 0), (1, .string (bs s_1)), (30, r_0t), (31, .int .i64 2), (8, .string (bs x22)), (9, .int .i64 r23)] [0, 1, 2, 3] [box r_0b (tabV r_0a r_0c r_0t), ro r_0c 1 (([92, 34] : List UInt8).map eB8), ro r_0a 1 (([92, 92] : List UInt8).map eB8), ro r_0t 1 (([[92], [34]] : List (List UInt8)).map eStr)] (qv9 rfl rfl rfl rfl rfl rfl rfl rfl rfl) (by decide) rfl ?_
          refine run_region' ?_
          refine oy rfl rfl (y_move rfl) ?_
          refine oy rfl rfl (y_neq rfl rfl) ?_
          refine ops_nil ?_
          refine goes_code ?_
          refine run_cond (decide (r23 ≠ 0)) rfl (fun hc25 => ?_) (fun hc25 => ?_)
          · replace h := cond_t h hc25
            refine run_seq ?_
            refine run_draw (by kernel_rfl) (by kernel_rfl) ?_
            refine sy rfl rfl (y_move rfl) ?_
            refine sy rfl rfl (y_move rfl) ?_
            refine sy rfl rfl (y_move rfl) ?_
            refine sy rfl rfl (y_move rfl) ?_
            obtain ⟨c26, hzc26, hlc26, hxc26, h⟩ := idx_some h
            refine sy rfl rfl (y_index_strI (kd := .i64) (i := 0) Tryz.runUnderlying9 rfl rfl hzc26 hxc26) ?_
            refine sy rfl rfl (y_nilBox rfl) ?_
            refine sy rfl rfl (y_fieldAddr_box (sz := 255) Tryz.runUnderlying175 rfl Tryz.sizeOf173 rfl) ?_
            refine sy rfl rfl (y_indexAddr_boxI (i := (c26.toNat : Int)) Tryz.runUnderlying173 Tryz.sizeOf47 rfl rfl (u8_rng c26)) ?_
            rcases cond3 h with ⟨he_c26, h⟩ | ⟨he_c26, h⟩ | ⟨he_c26, h⟩
            refine sy rfl rfl (y_load_box (r := r_0c) 0 Tryz.isAgg47 rfl rfl (tab_34 (he_c26))) ?_
            refine sy rfl rfl ((y_len 1 rfl Tryz.runUnderlying47 rfl rfl reads_ro).to (v_len eB8 _)) ?_
            refine sy rfl rfl (y_sub rfl rfl) ?_
            refine sy rfl rfl (y_mul rfl rfl) ?_
            refine sy rfl rfl (y_add rfl rfl) ?_
            refine sy rfl rfl (y_assign rfl) ?_
            refine still_nil ?_
            refine goes_code ?_
            refine run_weak [(5, .int .i64 (IntKind.i64.wrap (newSize_8 + (IntKind.i64.wrap (r23 * 1))))), (32, .int .i64 s_10), (0, boxP r_0b 0), (1, .string (bs s_1)), (30, r_0t), (31, .int .i64 2)] [0, 1, 2, 3] [box r_0b (tabV r_0a r_0c r_0t), ro r_0c 1 (([92, 34] : List UInt8).map eB8), ro r_0a 1 (([92, 92] : List UInt8).map eB8), ro r_0t 1 (([[92], [34]] : List (List UInt8)).map eStr)] (qv6 rfl rfl rfl rfl rfl rfl) (by decide) rfl ?_
            refine run_region' ?_
            refine oy rfl rfl (y_assign rfl) ?_
            refine ops_nil ?_
            refine goes_blk ?_
            obtain rfl := some_eq h
            exact goes_cut hL20 (((IntKind.i64.wrap (newSize_8 + (IntKind.i64.wrap (r23 * 1)))), true), ()) [0, 1, 2, 3] (qv7 rfl rfl rfl rfl rfl rfl rfl) (by decide) rfl rfl
            refine sy rfl rfl (y_load_box (r := r_0a) 0 Tryz.isAgg47 rfl rfl (tab_92 (he_c26))) ?_
            refine sy rfl rfl ((y_len 2 rfl Tryz.runUnderlying47 rfl rfl reads_ro).to (v_len eB8 _)) ?_
            refine sy rfl rfl (y_sub rfl rfl) ?_
            refine sy rfl rfl (y_mul rfl rfl) ?_
            refine sy rfl rfl (y_add rfl rfl) ?_
            refine sy rfl rfl (y_assign rfl) ?_
            refine still_nil ?_
            refine goes_code ?_
            refine run_weak [(5, .int .i64 (IntKind.i64.wrap (newSize_8 + (IntKind.i64.wrap (r23 * 1))))), (32, .int .i64 s_10), (0, boxP r_0b 0), (1, .string (bs s_1)), (30, r_0t), (31, .int .i64 2)] [0, 1, 2, 3] [box r_0b (tabV r_0a r_0c r_0t), ro r_0c 1 (([92, 34] : List UInt8).map eB8), ro r_0a 1 (([92, 92] : List UInt8).map eB8), ro r_0t 1 (([[92], [34]] : List (List UInt8)).map eStr)] (qv6 rfl rfl rfl rfl rfl rfl) (by decide) rfl ?_
            refine run_region' ?_
            refine oy rfl rfl (y_assign rfl) ?_
            refine ops_nil ?_
            refine goes_blk ?_
            obtain rfl := some_eq h
            exact goes_cut hL20 (((IntKind.i64.wrap (newSize_8 + (IntKind.i64.wrap (r23 * 1)))), true), ()) [0, 1, 2, 3] (qv7 rfl rfl rfl rfl rfl rfl rfl) (by decide) rfl rfl
            refine sy rfl rfl (y_load_box (r := .slice none 0 0) 0 Tryz.isAgg47 rfl rfl (tab_no (he_c26))) ?_
            refine sy rfl rfl (y_len_nil rfl Tryz.runUnderlying47 rfl) ?_
            refine sy rfl rfl (y_sub rfl rfl) ?_
            refine sy rfl rfl (y_mul rfl rfl) ?_
            refine sy rfl rfl (y_add rfl rfl) ?_
            refine sy rfl rfl (y_assign rfl) ?_
            refine still_nil ?_
            refine goes_code ?_
            refine run_weak [(5, .int .i64 (IntKind.i64.wrap (newSize_8 + (IntKind.i64.wrap (r23 * (-1)))))), (32, .int .i64 s_10), (0, boxP r_0b 0), (1, .string (bs s_1)), (30, r_0t), (31, .int .i64 2)] [0, 1, 2, 3] [box r_0b (tabV r_0a r_0c r_0t), ro r_0c 1 (([92, 34] : List UInt8).map eB8), ro r_0a 1 (([92, 92] : List UInt8).map eB8), ro r_0t 1 (([[92], [34]] : List (List UInt8)).map eStr)] (qv6 rfl rfl rfl rfl rfl rfl) (by decide) rfl ?_
            refine run_region' ?_
            refine oy rfl rfl (y_assign rfl) ?_
            refine ops_nil ?_
            refine goes_blk ?_
            obtain rfl := some_eq h
            exact goes_cut hL20 (((IntKind.i64.wrap (newSize_8 + (IntKind.i64.wrap (r23 * (-1))))), true), ()) [0, 1, 2, 3] (qv7 rfl rfl rfl rfl rfl rfl rfl) (by decide) rfl rfl
          · replace h := cond_f h hc25
            refine run_skip ?_
            refine goes_blk ?_
            obtain rfl := some_eq h
            exact goes_cut hL20 ((newSize_8, anyChanges_9), ()) [0, 1, 2, 3] (qv7 rfl rfl rfl rfl rfl rfl rfl) (by decide) rfl rfl
        rintro ⟨⟨newSize_16, anyChanges_17⟩, _⟩ hj
        obtain rfl : o18 = _ := hj
        replace h := after_go ho19
        clear ho19
        change Run _ _ _ (VF.of [(5, .int .i64 newSize_16), (6, .bool anyChanges_17), (0, boxP r_0b 0), (1, .string (bs s_1)), (30, r_0t), (31, .int .i64 2), (32, .int .i64 s_10)]) [box r_0b (tabV r_0a r_0c r_0t), ro r_0c 1 (([92, 34] : List UInt8).map eB8), ro r_0a 1 (([92, 92] : List UInt8).map eB8), ro r_0t 1 (([[92], [34]] : List (List UInt8)).map eStr)]
        refine run_region' ?_
        refine oy rfl rfl (y_add rfl rfl) ?_
        refine oy rfl rfl (y_move rfl) ?_
        refine ops_nil ?_
        obtain rfl := some_eq h
        exact goes_iter hgo12 (newSize_16, anyChanges_17, (IntKind.i64.wrap (s_10 + 1))) () [0, 1, 2, 3] rfl (qv7 rfl rfl rfl rfl rfl rfl rfl) (by decide) rfl
      · replace h := cond_f h hc15
        refine run_exit _ rfl ?_
        obtain rfl := some_eq h
        obtain rfl := hstop13 _ rfl
        exact goes_cut hL5 ((newSize_8, anyChanges_9), ()) [0, 1, 2, 3] (qv4 rfl rfl rfl rfl) (by decide) rfl rfl
    · replace h := cond_f h hc7
      refine run_seq ?_
      refine run_weak [(0, boxP r_0b 0), (1, .string (bs s_1)), (5, .int .i64 (s_1.length : Int)), (6, .bool false)] [0, 1, 2, 3] [ro r_0a 1 (([92, 92] : List UInt8).map eB8), ro r_0c 1 (([92, 34] : List UInt8).map eB8), ro r_0t 1 (([[92], [34]] : List (List UInt8)).map eStr), box r_0b (tabV r_0a r_0c r_0t)] (qv4 rfl rfl rfl rfl) (by decide) rfl ?_
      refine run_region' ?_
      refine oy rfl rfl (y_assign rfl) ?_
      refine ops_nil ?_
      refine goes_code ?_
      refine run_block ?_
      refine run_iter (step := strings_byteStringReplacer_Replace_179_L2 s_1) (n := n) (s0 := ((s_1.length : Int), false, 0)) h (G := Unit) () (fun σ γ => [(5, .int .i64 σ.1), (6, .bool σ.2.1), (10, .int .i64 σ.2.2), (0, boxP r_0b 0), (1, .string (bs s_1))]) (fun σ γ => [box r_0b (tabV r_0a r_0c r_0t), ro r_0c 1 (([92, 34] : List UInt8).map eB8), ro r_0a 1 (([92, 92] : List UInt8).map eB8), ro r_0t 1 (([[92], [34]] : List (List UInt8)).map eStr)]) [3, 1, 0, 2] (qv5 rfl rfl rfl rfl rfl) (by decide) rfl ?_
      rintro ⟨newSize_27, anyChanges_28, i_29⟩ _ o30 h L33 hgo31 hstop32
      change Run _ _ _ (VF.of [(5, .int .i64 newSize_27), (6, .bool anyChanges_28), (10, .int .i64 i_29), (0, boxP r_0b 0), (1, .string (bs s_1))]) [box r_0b (tabV r_0a r_0c r_0t), ro r_0c 1 (([92, 34] : List UInt8).map eB8), ro r_0a 1 (([92, 92] : List UInt8).map eB8), ro r_0t 1 (([[92], [34]] : List (List UInt8)).map eStr)]
      refine run_seq ?_
      refine run_seq ?_
      refine run_region' ?_
      refine oy rfl rfl (y_move rfl) ?_
      refine oy rfl rfl (y_move rfl) ?_
      refine oy rfl rfl (y_len_str rfl Tryz.runUnderlying9 rfl) ?_
      refine oy rfl rfl (y_lss rfl rfl) ?_
      refine ops_nil ?_
      refine goes_code ?_
      refine run_cond (decide (i_29 < (s_1.length : Int))) rfl (fun hc34 => ?_) (fun hc34 => ?_)
      · replace h := cond_t h hc34
        refine run_skip ?_
        refine goes_code ?_
        obtain ⟨o37, h, ho38⟩ := bindJ_some h
        refine run_cut ((Int × Bool) × (Unit)) (fun σ => [(5, .int .i64 σ.1.1), (6, .bool σ.1.2), (0, boxP r_0b 0), (1, .string (bs s_1)), (10, .int .i64 i_29)]) (fun σ => [box r_0b (tabV r_0a r_0c r_0t), ro r_0c 1 (([92, 34] : List UInt8).map eB8), ro r_0a 1 (([92, 92] : List UInt8).map eB8), ro r_0t 1 (([[92], [34]] : List (List UInt8)).map eStr)]) (fun σ => o37 = .go σ.1) (fun L40 hL39 => ?_) ?_
        · -- the ways through
          refine run_block ?_
          refine run_seq ?_
          refine run_region' ?_
          refine oy rfl rfl (y_move rfl) ?_
          refine oy rfl rfl (y_move rfl) ?_
          obtain ⟨c41, hzc41, hlc41, hxc41, h⟩ := idx_some h
          refine oy rfl rfl (y_index_strI (kd := .i64) (i := i_29) Tryz.runUnderlying9 rfl rfl hzc41 hxc41) ?_
          refine oy rfl rfl (y_assign rfl) ?_
          refine ops_nil ?_
          refine goes_code ?_
          refine run_seq ?_
          refine run_weak [(5, .int .i64 newSize_27), (6, .bool anyChanges_28), (10, .int .i64 i_29), (0, boxP r_0b 0), (1, .string (bs s_1)), (11, .int .u8 (c41.toNat : Int))] [0, 1, 2, 3] [box r_0b (tabV r_0a r_0c r_0t), ro r_0c 1 (([92, 34] : List UInt8).map eB8), ro r_0a 1 (([92, 92] : List UInt8).map eB8), ro r_0t 1 (([[92], [34]] : List (List UInt8)).map eStr)] (qv6 rfl rfl rfl rfl rfl rfl) (by decide) rfl ?_
          refine run_region' ?_
          refine oy rfl rfl (y_move rfl) ?_
          refine oy rfl rfl (y_move rfl) ?_
          refine oy rfl rfl (y_nilBox rfl) ?_
          refine oy rfl rfl (y_fieldAddr_box (sz := 255) Tryz.runUnderlying175 rfl Tryz.sizeOf173 rfl) ?_
          refine oy rfl rfl (y_indexAddr_boxI (i := (c41.toNat : Int)) Tryz.runUnderlying173 Tryz.sizeOf47 rfl rfl (u8_rng c41)) ?_
          rcases cond3 h with ⟨he_c41, h⟩ | ⟨he_c41, h⟩ | ⟨he_c41, h⟩
          refine oy rfl rfl (y_load_box (r := r_0c) 0 Tryz.isAgg47 rfl rfl (tab_34 (he_c41))) ?_
          refine oy rfl rfl (y_isneq 1 Tryz.runUnderlying47 rfl rfl rfl reads_ro (by simp)) ?_
          refine ops_nil ?_
          refine goes_code ?_
          refine run_cond_t rfl ?_
          refine run_seq ?_
          refine run_region' ?_
          refine oy rfl rfl (y_move rfl) ?_
          refine oy rfl rfl (y_move rfl) ?_
          refine oy rfl rfl (y_move rfl) ?_
          refine oy rfl rfl (y_nilBox rfl) ?_
          refine oy rfl rfl (y_fieldAddr_box (sz := 255) Tryz.runUnderlying175 rfl Tryz.sizeOf173 rfl) ?_
          refine oy rfl rfl (y_indexAddr_boxI (i := (c41.toNat : Int)) Tryz.runUnderlying173 Tryz.sizeOf47 rfl rfl (u8_rng c41)) ?_
          refine oy rfl rfl (y_load_box (r := r_0c) 0 Tryz.isAgg47 rfl rfl (tab_34 (he_c41))) ?_
          refine oy rfl rfl ((y_len 1 rfl Tryz.runUnderlying47 rfl rfl reads_ro).to (v_len eB8 _)) ?_
          refine oy rfl rfl (y_sub rfl rfl) ?_
          refine ops_weak [(10, .int .i64 i_29), (0, boxP r_0b 0), (1, .string (bs s_1)), (71, .int .i64 newSize_27), (79, .int .i64 1)] [0, 1, 2, 3] [box r_0b (tabV r_0a r_0c r_0t), ro r_0c 1 (([92, 34] : List UInt8).map eB8), ro r_0a 1 (([92, 92] : List UInt8).map eB8), ro r_0t 1 (([[92], [34]] : List (List UInt8)).map eStr)] (qv5 rfl rfl rfl rfl rfl) (by decide) rfl ?_
          refine oy rfl rfl (y_add rfl rfl) ?_
          refine oy rfl rfl (y_assign rfl) ?_
          refine ops_nil ?_
          refine goes_code ?_
          refine run_region' ?_
          refine oy rfl rfl (y_assign rfl) ?_
          refine ops_nil ?_
          refine goes_blk ?_
          obtain rfl := some_eq h
          exact goes_cut hL39 (((IntKind.i64.wrap (newSize_27 + 1)), true), ()) [0, 1, 2, 3] (qv5 rfl rfl rfl rfl rfl) (by decide) rfl rfl
          refine oy rfl rfl (y_load_box (r := r_0a) 0 Tryz.isAgg47 rfl rfl (tab_92 (he_c41))) ?_
          refine oy rfl rfl (y_isneq 2 Tryz.runUnderlying47 rfl rfl rfl reads_ro (by simp)) ?_
          refine ops_nil ?_
          refine goes_code ?_
          refine run_cond_t rfl ?_
          refine run_seq ?_
          refine run_region' ?_
          refine oy rfl rfl (y_move rfl) ?_
          refine oy rfl rfl (y_move rfl) ?_
          refine oy rfl rfl (y_move rfl) ?_
          refine oy rfl rfl (y_nilBox rfl) ?_
          refine oy rfl rfl (y_fieldAddr_box (sz := 255) Tryz.runUnderlying175 rfl Tryz.sizeOf173 rfl) ?_
          refine oy rfl rfl (y_indexAddr_boxI (i := (c41.toNat : Int)) Tryz.runUnderlying173 Tryz.sizeOf47 rfl rfl (u8_rng c41)) ?_
          refine oy rfl rfl (y_load_box (r := r_0a) 0 Tryz.isAgg47 rfl rfl (tab_92 (he_c41))) ?_
          refine oy rfl rfl ((y_len 2 rfl Tryz.runUnderlying47 rfl rfl reads_ro).to (v_len eB8 _)) ?_
          refine oy rfl rfl (y_sub rfl rfl) ?_
          refine ops_weak [(10, .int .i64 i_29), (0, boxP r_0b 0), (1, .string (bs s_1)), (71, .int .i64 newSize_27), (79, .int .i64 1)] [0, 1, 2, 3] [box r_0b (tabV r_0a r_0c r_0t), ro r_0c 1 (([92, 34] : List UInt8).map eB8), ro r_0a 1 (([92, 92] : List UInt8).map eB8), ro r_0t 1 (([[92], [34]] : List (List UInt8)).map eStr)] (qv5 rfl rfl rfl rfl rfl) (by decide) rfl ?_
          refine oy rfl rfl (y_add rfl rfl) ?_
          refine oy rfl rfl (y_assign rfl) ?_
          refine ops_nil ?_
          refine goes_code ?_
          refine run_region' ?_
          refine oy rfl rfl (y_assign rfl) ?_
          refine ops_nil ?_
          refine goes_blk ?_
          obtain rfl := some_eq h
          exact goes_cut hL39 (((IntKind.i64.wrap (newSize_27 + 1)), true), ()) [0, 1, 2, 3] (qv5 rfl rfl rfl rfl rfl) (by decide) rfl rfl
          refine oy rfl rfl (y_load_box (r := .slice none 0 0) 0 Tryz.isAgg47 rfl rfl (tab_no (he_c41))) ?_
          refine oy rfl rfl (y_nilneq Tryz.runUnderlying47 rfl rfl) ?_
          refine ops_nil ?_
          refine goes_code ?_
          refine run_cond_f rfl ?_
          refine run_skip ?_
          refine goes_blk ?_
          obtain rfl := some_eq h
          exact goes_cut hL39 ((newSize_27, anyChanges_28), ()) [0, 1, 2, 3] (qv5 rfl rfl rfl rfl rfl) (by decide) rfl rfl
        rintro ⟨⟨newSize_35, anyChanges_36⟩, _⟩ hj
        obtain rfl : o37 = _ := hj
        replace h := after_go ho38
        clear ho38
        change Run _ _ _ (VF.of [(5, .int .i64 newSize_35), (6, .bool anyChanges_36), (0, boxP r_0b 0), (1, .string (bs s_1)), (10, .int .i64 i_29)]) [box r_0b (tabV r_0a r_0c r_0t), ro r_0c 1 (([92, 34] : List UInt8).map eB8), ro r_0a 1 (([92, 92] : List UInt8).map eB8), ro r_0t 1 (([[92], [34]] : List (List UInt8)).map eStr)]
        refine run_region' ?_
        refine oy rfl rfl (y_move rfl) ?_
        refine oy rfl rfl (y_add rfl rfl) ?_
        refine oy rfl rfl (y_assign rfl) ?_
        refine ops_nil ?_
        obtain rfl := some_eq h
        exact goes_iter hgo31 (newSize_35, anyChanges_36, (IntKind.i64.wrap (i_29 + 1))) () [0, 1, 2, 3] rfl (qv5 rfl rfl rfl rfl rfl) (by decide) rfl
      · replace h := cond_f h hc34
        refine run_exit _ rfl ?_
        obtain rfl := some_eq h
        obtain rfl := hstop32 _ rfl
        exact goes_cut hL5 ((newSize_27, anyChanges_28), ()) [0, 1, 2, 3] (qv4 rfl rfl rfl rfl) (by decide) rfl rfl
  rintro ⟨⟨newSize_1, anyChanges_2⟩, _⟩ hj
  obtain rfl : o3 = _ := hj
  replace h := after_go ho4
  clear ho4
  change Run _ _ _ (VF.of [(5, .int .i64 newSize_1), (6, .bool anyChanges_2), (0, boxP r_0b 0), (1, .string (bs s_1))]) [box r_0b (tabV r_0a r_0c r_0t), ro r_0c 1 (([92, 34] : List UInt8).map eB8), ro r_0a 1 (([92, 92] : List UInt8).map eB8), ro r_0t 1 (([[92], [34]] : List (List UInt8)).map eStr)]
  refine run_seq ?_
  refine run_seq ?_
  refine run_region' ?_
  refine oy rfl rfl (y_move rfl) ?_
  refine oy rfl rfl (y_not rfl) ?_
  refine ops_nil ?_
  refine goes_code ?_
  refine run_cond (!anyChanges_2) rfl (fun hc42 => ?_) (fun hc42 => ?_)
  · replace h := cond_t h hc42
    refine run_seq ?_
    refine run_region' ?_
    refine oy rfl rfl (y_move rfl) ?_
    refine oy rfl rfl (y_assign rfl) ?_
    refine ops_nil ?_
    refine goes_code ?_
    refine run_ret ?_
    obtain rfl := some_eq h
    refine fin_slots [4] [.string (bs s_1)] [] [] Tryz.results179 rfl (by decide) rfl ?_
    exact ⟨rfl, rfl⟩
  · replace h := cond_f h hc42
    refine run_skip ?_
    refine goes_code ?_
    refine run_seq ?_
    refine run_region' ?_
    refine oy rfl rfl (y_move rfl) ?_
    obtain ⟨hm44, h⟩ := need_some h
    refine ot rfl rfl (t_makeSlice (es := 1) Tryz.runUnderlying47 Tryz.typeInfo5 rfl Tryz.zeroValue5 rfl (by decide) rfl rfl hm44.1 hm44.2 (by decide)) ?_
    rintro v43 _ rfl
    refine ops_turn (retell 4 (g := row v43 1 ((List.replicate newSize_1.toNat (0 : UInt8)).map eB8)) rfl (congrArg (row _ _) (map_rep rfl))) ?_
    refine oy rfl rfl (y_assign rfl) ?_
    refine ops_nil ?_
    refine goes_code ?_
    refine run_seq ?_
    refine run_region' ?_
    refine oy rfl rfl (y_assign rfl) ?_
    refine ops_nil ?_
    refine goes_code ?_
    obtain ⟨o46, h, ho47⟩ := bindJ_some h
    refine run_cut (((List UInt8)) × (Unit)) (fun σ => [(12, v43)]) (fun σ => [row v43 1 (σ.1.map eB8)]) (fun σ => o46 = .go σ.1) (fun L49 hL48 => ?_) ?_
    · -- the ways through
      refine run_seq ?_
      refine run_region' ?_
      refine oy rfl rfl (y_assign rfl) ?_
      refine ops_nil ?_
      refine goes_code ?_
      refine run_block ?_
      refine run_iter (step := strings_byteStringReplacer_Replace_179_L3 s_1) (n := n) (s0 := (0, 0, (List.replicate newSize_1.toNat (0 : UInt8)))) h (G := Unit) () (fun σ γ => [(13, .int .i64 σ.1), (14, .int .i64 σ.2.1), (0, boxP r_0b 0), (1, .string (bs s_1)), (12, v43)]) (fun σ γ => [box r_0b (tabV r_0a r_0c r_0t), ro r_0c 1 (([92, 34] : List UInt8).map eB8), ro r_0a 1 (([92, 92] : List UInt8).map eB8), ro r_0t 1 (([[92], [34]] : List (List UInt8)).map eStr), row v43 1 (σ.2.2.map eB8)]) [0, 1, 2, 3, 4] (qv5 rfl rfl rfl rfl rfl) (by decide) rfl ?_
      rintro ⟨j_50, i_51, x_52⟩ _ o53 h L56 hgo54 hstop55
      change Run _ _ _ (VF.of [(13, .int .i64 j_50), (14, .int .i64 i_51), (0, boxP r_0b 0), (1, .string (bs s_1)), (12, v43)]) [box r_0b (tabV r_0a r_0c r_0t), ro r_0c 1 (([92, 34] : List UInt8).map eB8), ro r_0a 1 (([92, 92] : List UInt8).map eB8), ro r_0t 1 (([[92], [34]] : List (List UInt8)).map eStr), row v43 1 (x_52.map eB8)]
      refine run_seq ?_
      refine run_seq ?_
      refine run_region' ?_
      refine oy rfl rfl (y_move rfl) ?_
      refine oy rfl rfl (y_move rfl) ?_
      refine oy rfl rfl (y_len_str rfl Tryz.runUnderlying9 rfl) ?_
      refine oy rfl rfl (y_lss rfl rfl) ?_
      refine ops_nil ?_
      refine goes_code ?_
      refine run_cond (decide (i_51 < (s_1.length : Int))) rfl (fun hc57 => ?_) (fun hc57 => ?_)
      · replace h := cond_t h hc57
        refine run_skip ?_
        refine goes_code ?_
        obtain ⟨o60, h, ho61⟩ := bindJ_some h
        refine run_cut ((Int × (List UInt8)) × (Unit)) (fun σ => [(13, .int .i64 σ.1.1), (0, boxP r_0b 0), (1, .string (bs s_1)), (12, v43), (14, .int .i64 i_51)]) (fun σ => [box r_0b (tabV r_0a r_0c r_0t), ro r_0c 1 (([92, 34] : List UInt8).map eB8), ro r_0a 1 (([92, 92] : List UInt8).map eB8), ro r_0t 1 (([[92], [34]] : List (List UInt8)).map eStr), row v43 1 (σ.1.2.map eB8)]) (fun σ => o60 = .go σ.1) (fun L63 hL62 => ?_) ?_
        · -- the ways through
          refine run_block ?_
          refine run_seq ?_
          refine run_region' ?_
          refine oy rfl rfl (y_move rfl) ?_
          refine oy rfl rfl (y_move rfl) ?_
          obtain ⟨c64, hzc64, hlc64, hxc64, h⟩ := idx_some h
          refine oy rfl rfl (y_index_strI (kd := .i64) (i := i_51) Tryz.runUnderlying9 rfl rfl hzc64 hxc64) ?_
          refine oy rfl rfl (y_assign rfl) ?_
          refine ops_nil ?_
          refine goes_code ?_
          refine run_seq ?_
          refine run_weak [(13, .int .i64 j_50), (14, .int .i64 i_51), (0, boxP r_0b 0), (1, .string (bs s_1)), (12, v43), (15, .int .u8 (c64.toNat : Int))] [0, 1, 2, 3, 4] [box r_0b (tabV r_0a r_0c r_0t), ro r_0c 1 (([92, 34] : List UInt8).map eB8), ro r_0a 1 (([92, 92] : List UInt8).map eB8), ro r_0t 1 (([[92], [34]] : List (List UInt8)).map eStr), row v43 1 (x_52.map eB8)] (qv6 rfl rfl rfl rfl rfl rfl) (by decide) rfl ?_
          refine run_region' ?_
          refine oy rfl rfl (y_move rfl) ?_
          refine oy rfl rfl (y_move rfl) ?_
          refine oy rfl rfl (y_nilBox rfl) ?_
          refine oy rfl rfl (y_fieldAddr_box (sz := 255) Tryz.runUnderlying175 rfl Tryz.sizeOf173 rfl) ?_
          refine oy rfl rfl (y_indexAddr_boxI (i := (c64.toNat : Int)) Tryz.runUnderlying173 Tryz.sizeOf47 rfl rfl (u8_rng c64)) ?_
          rcases cond3 h with ⟨he_c64, h⟩ | ⟨he_c64, h⟩ | ⟨he_c64, h⟩
          refine oy rfl rfl (y_load_box (r := r_0c) 0 Tryz.isAgg47 rfl rfl (tab_34 (he_c64))) ?_
          refine oy rfl rfl (y_isneq 1 Tryz.runUnderlying47 rfl rfl rfl reads_ro (by simp)) ?_
          refine ops_nil ?_
          refine goes_code ?_
          refine run_cond_t rfl ?_
          refine run_drawany [box r_0b (tabV r_0a r_0c r_0t), ro r_0c 1 (([92, 34] : List UInt8).map eB8), ro r_0a 1 (([92, 92] : List UInt8).map eB8), ro r_0t 1 (([[92], [34]] : List (List UInt8)).map eStr), HA.emp] (by kernel_rfl) ?_
          refine any_y 0 rfl (by kernel_rfl) (by kernel_rfl) (by kernel_rfl) (ss (ss (ss (ss (se (sn)))))) (wn rfl) rfl (y_move rfl) ?_
          refine any_y 1 rfl (by kernel_rfl) (by kernel_rfl) (by kernel_rfl) (ss (ss (ss (ss (se (sn)))))) (wn rfl) rfl (y_move rfl) ?_
          refine any_y 2 rfl (by kernel_rfl) (by kernel_rfl) (by kernel_rfl) (ss (ss (ss (ss (se (sn)))))) (wn rfl) rfl (y_move rfl) ?_
          refine any_y 4 rfl (by kernel_rfl) (by kernel_rfl) (by kernel_rfl) (ss (ss (ss (ss (se (sn)))))) (wn rfl) rfl (y_move rfl) ?_
          refine any_y 5 rfl (by kernel_rfl) (by kernel_rfl) (by kernel_rfl) (ss (ss (ss (ss (se (sn)))))) (wn rfl) rfl (y_move rfl) ?_
          refine any_y 6 rfl (by kernel_rfl) (by kernel_rfl) (by kernel_rfl) (ss (ss (ss (ss (se (sn)))))) (wn rfl) rfl (y_nilBox rfl) ?_
          refine any_y 7 rfl (by kernel_rfl) (by kernel_rfl) (by kernel_rfl) (ss (ss (ss (ss (se (sn)))))) (wn rfl) rfl (y_fieldAddr_box (sz := 255) Tryz.runUnderlying175 rfl Tryz.sizeOf173 rfl) ?_
          refine any_y 8 rfl (by kernel_rfl) (by kernel_rfl) (by kernel_rfl) (ss (ss (ss (ss (se (sn)))))) (wn rfl) rfl (y_indexAddr_boxI (i := (c64.toNat : Int)) Tryz.runUnderlying173 Tryz.sizeOf47 rfl rfl (u8_rng c64)) ?_
          refine any_y 9 rfl (by kernel_rfl) (by kernel_rfl) (by kernel_rfl) (ss (ss (ss (ss (se (sn)))))) (wn rfl) rfl (y_load_box (r := r_0c) 0 Tryz.isAgg47 rfl rfl (tab_34 (he_c64))) ?_
          refine any_all [3] (by kernel_rfl) rfl (anyo_cons ?_ anyo_nil)
          obtain ⟨hb65, h⟩ := need_some h
          refine any_ty rfl (wn rfl) rfl (y_slice (l := j_50) (r := (x_52.length : Int)) 4 Tryz.runUnderlying47 Tryz.sizeOf5 rfl rfl reads_row (bi1 (kd := .i64) rfl) bi0m hb65.1 hb65.2.1 (map_len_le hb65.2.2)) ⟨(ss (ss (ss (ss (se (sn)))))), ?_⟩
          refine any_all [10] (by kernel_rfl) rfl (anyo_cons ?_ anyo_nil)
          refine any_t rfl (wn rfl) rfl (t_copyL (F := eB8) (l := x_52) (ns := ([92, 34] : List UInt8)) (es := 1) (a := j_50.toNat) (b := ((x_52.length : Int)).toNat) (b2 := ((x_52.length : Int)).toNat) 4 rfl Tryz.runUnderlying47 Tryz.sizeOf5 rfl part_sub (by first | exact Nat.zero_le _ | omega) (by first | exact Nat.le_refl _ | omega | (simp only [List.length_map]; omega)) rfl rfl (srcp_reads 1 rfl reads_ro (map_ok eB8_ok _)) rfl rfl) ?_
          rintro _ _ ⟨rfl, rfl⟩
          refine ⟨(ss (ss (ss (ss (se (sn)))))), ?_⟩
          refine any_y 11 rfl (by kernel_rfl) (by kernel_rfl) (by kernel_rfl) (ss (ss (ss (ss (se (sn)))))) (wn rfl) rfl (y_add rfl rfl) ?_
          refine any_y 12 rfl (by kernel_rfl) (by kernel_rfl) (by kernel_rfl) (ss (ss (ss (ss (se (sn)))))) (wn rfl) rfl (y_assign rfl) ?_
          refine any_nil (by kernel_rfl) ?_
          refine goes_blk ?_
          obtain rfl := some_eq h
          exact goes_cut hL62 (((IntKind.i64.wrap (j_50 + ((min ([92, 34] : List UInt8).length ((((x_52.length : Int)).toNat) - j_50.toNat) : Nat) : Int))), (cpy x_52 j_50.toNat (((x_52.length : Int)).toNat) ([92, 34] : List UInt8))), ()) [0, 1, 2, 3, 4] (qv5 rfl rfl rfl rfl rfl) (by decide) rfl rfl
          refine oy rfl rfl (y_load_box (r := r_0a) 0 Tryz.isAgg47 rfl rfl (tab_92 (he_c64))) ?_
          refine oy rfl rfl (y_isneq 2 Tryz.runUnderlying47 rfl rfl rfl reads_ro (by simp)) ?_
          refine ops_nil ?_
          refine goes_code ?_
          refine run_cond_t rfl ?_
          refine run_drawany [box r_0b (tabV r_0a r_0c r_0t), ro r_0c 1 (([92, 34] : List UInt8).map eB8), ro r_0a 1 (([92, 92] : List UInt8).map eB8), ro r_0t 1 (([[92], [34]] : List (List UInt8)).map eStr), HA.emp] (by kernel_rfl) ?_
          refine any_y 0 rfl (by kernel_rfl) (by kernel_rfl) (by kernel_rfl) (ss (ss (ss (ss (se (sn)))))) (wn rfl) rfl (y_move rfl) ?_
          refine any_y 1 rfl (by kernel_rfl) (by kernel_rfl) (by kernel_rfl) (ss (ss (ss (ss (se (sn)))))) (wn rfl) rfl (y_move rfl) ?_
          refine any_y 2 rfl (by kernel_rfl) (by kernel_rfl) (by kernel_rfl) (ss (ss (ss (ss (se (sn)))))) (wn rfl) rfl (y_move rfl) ?_
          refine any_y 4 rfl (by kernel_rfl) (by kernel_rfl) (by kernel_rfl) (ss (ss (ss (ss (se (sn)))))) (wn rfl) rfl (y_move rfl) ?_
          refine any_y 5 rfl (by kernel_rfl) (by kernel_rfl) (by kernel_rfl) (ss (ss (ss (ss (se (sn)))))) (wn rfl) rfl (y_move rfl) ?_
          refine any_y 6 rfl (by kernel_rfl) (by kernel_rfl) (by kernel_rfl) (ss (ss (ss (ss (se (sn)))))) (wn rfl) rfl (y_nilBox rfl) ?_
          refine any_y 7 rfl (by kernel_rfl) (by kernel_rfl) (by kernel_rfl) (ss (ss (ss (ss (se (sn)))))) (wn rfl) rfl (y_fieldAddr_box (sz := 255) Tryz.runUnderlying175 rfl Tryz.sizeOf173 rfl) ?_
          refine any_y 8 rfl (by kernel_rfl) (by kernel_rfl) (by kernel_rfl) (ss (ss (ss (ss (se (sn)))))) (wn rfl) rfl (y_indexAddr_boxI (i := (c64.toNat : Int)) Tryz.runUnderlying173 Tryz.sizeOf47 rfl rfl (u8_rng c64)) ?_
          refine any_y 9 rfl (by kernel_rfl) (by kernel_rfl) (by kernel_rfl) (ss (ss (ss (ss (se (sn)))))) (wn rfl) rfl (y_load_box (r := r_0a) 0 Tryz.isAgg47 rfl rfl (tab_92 (he_c64))) ?_
          refine any_all [3] (by kernel_rfl) rfl (anyo_cons ?_ anyo_nil)
          obtain ⟨hb66, h⟩ := need_some h
          refine any_ty rfl (wn rfl) rfl (y_slice (l := j_50) (r := (x_52.length : Int)) 4 Tryz.runUnderlying47 Tryz.sizeOf5 rfl rfl reads_row (bi1 (kd := .i64) rfl) bi0m hb66.1 hb66.2.1 (map_len_le hb66.2.2)) ⟨(ss (ss (ss (ss (se (sn)))))), ?_⟩
          refine any_all [10] (by kernel_rfl) rfl (anyo_cons ?_ anyo_nil)
          refine any_t rfl (wn rfl) rfl (t_copyL (F := eB8) (l := x_52) (ns := ([92, 92] : List UInt8)) (es := 1) (a := j_50.toNat) (b := ((x_52.length : Int)).toNat) (b2 := ((x_52.length : Int)).toNat) 4 rfl Tryz.runUnderlying47 Tryz.sizeOf5 rfl part_sub (by first | exact Nat.zero_le _ | omega) (by first | exact Nat.le_refl _ | omega | (simp only [List.length_map]; omega)) rfl rfl (srcp_reads 2 rfl reads_ro (map_ok eB8_ok _)) rfl rfl) ?_
          rintro _ _ ⟨rfl, rfl⟩
          refine ⟨(ss (ss (ss (ss (se (sn)))))), ?_⟩
          refine any_y 11 rfl (by kernel_rfl) (by kernel_rfl) (by kernel_rfl) (ss (ss (ss (ss (se (sn)))))) (wn rfl) rfl (y_add rfl rfl) ?_
          refine any_y 12 rfl (by kernel_rfl) (by kernel_rfl) (by kernel_rfl) (ss (ss (ss (ss (se (sn)))))) (wn rfl) rfl (y_assign rfl) ?_
          refine any_nil (by kernel_rfl) ?_
          refine goes_blk ?_
          obtain rfl := some_eq h
          exact goes_cut hL62 (((IntKind.i64.wrap (j_50 + ((min ([92, 92] : List UInt8).length ((((x_52.length : Int)).toNat) - j_50.toNat) : Nat) : Int))), (cpy x_52 j_50.toNat (((x_52.length : Int)).toNat) ([92, 92] : List UInt8))), ()) [0, 1, 2, 3, 4] (qv5 rfl rfl rfl rfl rfl) (by decide) rfl rfl
          refine oy rfl rfl (y_load_box (r := .slice none 0 0) 0 Tryz.isAgg47 rfl rfl (tab_no (he_c64))) ?_
          refine oy rfl rfl (y_nilneq Tryz.runUnderlying47 rfl rfl) ?_
          refine ops_nil ?_
          refine goes_code ?_
          refine run_cond_f rfl ?_
          refine run_seq ?_
          refine run_region' ?_
          refine oy rfl rfl (y_move rfl) ?_
          refine oy rfl rfl (y_move rfl) ?_
          refine oy rfl rfl (y_move rfl) ?_
          obtain ⟨x67, hzx67, hlx67, hxx67, h⟩ := idx_some h
          refine oy rfl rfl (y_indexAddrI (kd := .i64) (i := j_50) 4 Tryz.runUnderlying47 Tryz.sizeOf5 rfl rfl rfl reads_row hzx67 (map_lt hlx67)) ?_
          refine ot rfl rfl (t_store_row (i := j_50.toNat) (j := 0) (c := eB8 x67) 4 Tryz.sizeOf5 rfl rfl rfl rfl (map_get hxx67) (by decide) (by simp [Value.cells, Value.oneCell', boxP])) ?_
          rintro _ _ ⟨rfl, rfl⟩
          obtain hxx68 : ((x_52.set j_50.toNat c64) : List UInt8)[j_50.toNat]? = some c64 := set_at hlx67
          obtain hlx68 : j_50.toNat < ((x_52.set j_50.toNat c64) : List UInt8).length := set_lt hlx67
          obtain hzx68 : (0 : Int) ≤ j_50 := id hzx67
          refine ops_turn (retell 4 (g := row v43 1 ((x_52.set j_50.toNat c64).map eB8)) rfl (congrArg (row _ _) (map_set_at rfl))) ?_
          refine ops_nil ?_
          refine goes_code ?_
          refine run_weak [(13, .int .i64 j_50), (14, .int .i64 i_51), (0, boxP r_0b 0), (1, .string (bs s_1)), (12, v43)] [0, 1, 2, 3, 4] [box r_0b (tabV r_0a r_0c r_0t), ro r_0c 1 (([92, 34] : List UInt8).map eB8), ro r_0a 1 (([92, 92] : List UInt8).map eB8), ro r_0t 1 (([[92], [34]] : List (List UInt8)).map eStr), row v43 1 ((x_52.set j_50.toNat c64).map eB8)] (qv5 rfl rfl rfl rfl rfl) (by decide) rfl ?_
          refine run_region' ?_
          refine oy rfl rfl (y_move rfl) ?_
          refine oy rfl rfl (y_add rfl rfl) ?_
          refine oy rfl rfl (y_assign rfl) ?_
          refine ops_nil ?_
          refine goes_blk ?_
          obtain rfl := some_eq h
          exact goes_cut hL62 (((IntKind.i64.wrap (j_50 + 1)), (x_52.set j_50.toNat c64)), ()) [0, 1, 2, 3, 4] (qv5 rfl rfl rfl rfl rfl) (by decide) rfl rfl
        rintro ⟨⟨j_58, x_59⟩, _⟩ hj
        obtain rfl : o60 = _ := hj
        replace h := after_go ho61
        clear ho61
        change Run _ _ _ (VF.of [(13, .int .i64 j_58), (0, boxP r_0b 0), (1, .string (bs s_1)), (12, v43), (14, .int .i64 i_51)]) [box r_0b (tabV r_0a r_0c r_0t), ro r_0c 1 (([92, 34] : List UInt8).map eB8), ro r_0a 1 (([92, 92] : List UInt8).map eB8), ro r_0t 1 (([[92], [34]] : List (List UInt8)).map eStr), row v43 1 (x_59.map eB8)]
        refine run_region' ?_
        refine oy rfl rfl (y_move rfl) ?_
        refine oy rfl rfl (y_add rfl rfl) ?_
        refine oy rfl rfl (y_assign rfl) ?_
        refine ops_nil ?_
        obtain rfl := some_eq h
        exact goes_iter hgo54 (j_58, (IntKind.i64.wrap (i_51 + 1)), x_59) () [0, 1, 2, 3, 4] rfl (qv5 rfl rfl rfl rfl rfl) (by decide) rfl
      · replace h := cond_f h hc57
        refine run_exit _ rfl ?_
        obtain rfl := some_eq h
        obtain rfl := hstop55 _ rfl
        exact goes_cut hL48 (x_52, ()) [4] (qv1 rfl) (by decide) rfl rfl
    rintro ⟨x_45, _⟩ hj
    obtain rfl : o46 = _ := hj
    replace h := after_go ho47
    clear ho47
    change Run _ _ _ (VF.of [(12, v43)]) [row v43 1 (x_45.map eB8)]
    refine run_seq ?_
    refine run_region' ?_
    refine oy rfl rfl (y_move rfl) ?_
    refine oy rfl rfl (y_b2s (l := x_45) 0 Tryz.runUnderlying47 Tryz.runUnderlying5 Tryz.runUnderlying9 rfl rfl reads_row) ?_
    refine oy rfl rfl (y_assign rfl) ?_
    refine ops_nil ?_
    refine goes_code ?_
    refine run_ret ?_
    obtain rfl := some_eq h
    refine fin_slots [4] [.string (bs x_45)] [] [] Tryz.results179 rfl (by decide) rfl ?_
    exact ⟨rfl, rfl⟩

end Go.Proofs.YtgibkdldfnlglaaGreatDoor
namespace Go.Abs
@[simp] theorem bindJ_go {S R : Type} (s : S) (k : S → Option R) : bindJ (some (.go s)) k = k s := rfl
@[simp] theorem bindJ_stop {S R : Type} (r : R) (k : S → Option R) : bindJ (some (.stop r)) k = some r := rfl
@[simp] theorem bindJ_none {S R : Type} (k : S → Option R) : bindJ (none : Option (Lp S R)) k = none := rfl
theorem need_pos {α : Type} {p : Prop} [Decidable p] (h : p) (x : Option α) : need p x = x := by simp [need, h]
theorem idx_get {α β : Type} {l : List α} {i : Nat} {x : α} (h : l[i]? = some x) (k : α → Option β) : idx l (i : Int) k = k x := by simp [idx, h]
theorem idx_get' {α β : Type} {l : List α} {i : Nat} (h : i < l.length) (k : α → Option β) : idx l (i : Int) k = k l[i] := idx_get (List.getElem?_eq_getElem h) k
theorem iter_go {S R : Type} {step : S → Option (Lp S R)} {n : Nat} {s s' : S} (h : step s = some (.go s')) : iter step (n + 1) s = iter step n s' := by simp [iter, h]
theorem iter_stop {S R : Type} {step : S → Option (Lp S R)} {n : Nat} {s : S} {r : R} (h : step s = some (.stop r)) : iter step (n + 1) s = some r := by simp [iter, h]
/-- a loop by an invariant and a measure -/
theorem iter_inv {S R : Type} {step : S → Option (Lp S R)} (inv : S → Prop) (μ : S → Nat) (post : R → Prop)
    (h : ∀ s, inv s → (∃ s', step s = some (.go s') ∧ inv s' ∧ μ s' < μ s) ∨ (∃ r, step s = some (.stop r) ∧ post r)) :
    ∀ (n : Nat) (s : S), inv s → μ s < n → ∃ r, iter step n s = some r ∧ post r
  | 0, s, _, hm => by omega
  | n + 1, s, hi, hm => by
    rcases h s hi with ⟨s', h1, h2, h3⟩ | ⟨r, h1, h2⟩
    · obtain ⟨r, h4, h5⟩ := iter_inv inv μ post h n s' h2 (by omega)
      exact ⟨r, by rw [iter_go h1, h4], h5⟩
    · exact ⟨r, iter_stop h1, h2⟩
theorem w64 {x : Int} (h1 : -9223372036854775808 ≤ x) (h2 : x ≤ 9223372036854775807) : IntKind.i64.wrap x = x := wrap_i64 h1 h2
end Go.Abs
namespace Go.Abs
end Go.Abs
namespace Go.Abs
end Go.Abs
namespace Go.Proofs.YtgibkdldfnlglaaGreatDoor
open Go.Abs
set_option linter.unusedSimpArgs false
set_option linter.unusedVariables false
def escB (b : UInt8) : List UInt8 := if b = 34 then [92, 34] else if b = 92 then [92, 92] else [b]
def esc (s : List UInt8) : List UInt8 := s.flatMap escB
def k2 (s : List UInt8) : Nat := s.count 34 + s.count 92
theorem escB_34 : escB 34 = [92, 34] := rfl
theorem escB_92 : escB 92 = [92, 92] := rfl
theorem escB_no {b : UInt8} (h1 : b ≠ 34) (h2 : b ≠ 92) : escB b = [b] := by simp [escB, h1, h2]
theorem k2_cons (b : UInt8) (s : List UInt8) : k2 (b :: s) = k2 s + (if b = 34 ∨ b = 92 then 1 else 0) := by
  unfold k2
  by_cases h1 : b = 34
  · subst h1; simp; omega
  · by_cases h2 : b = 92
    · subst h2; simp; omega
    · simp [List.count_cons, h1, h2]
theorem esc_len : ∀ s : List UInt8, (esc s).length = s.length + k2 s
  | [] => rfl
  | b :: s => by
    have ih := esc_len s
    unfold esc at ih ⊢
    rw [List.flatMap_cons, List.length_append, ih, k2_cons]
    by_cases h1 : b = 34
    · subst h1; simp [escB_34]; omega
    · by_cases h2 : b = 92
      · subst h2; simp [escB_92]; omega
      · simp [escB_no h1 h2, h1, h2]; omega
theorem esc_id : ∀ s : List UInt8, k2 s = 0 → esc s = s
  | [], _ => rfl
  | b :: s, h => by
    rw [k2_cons] at h
    have ih := esc_id s (by omega)
    by_cases h1 : b = 34
    · subst h1; simp at h
    · by_cases h2 : b = 92
      · subst h2; simp at h
      · unfold esc at ih ⊢
        rw [List.flatMap_cons, ih, escB_no h1 h2]; rfl
theorem k2_le (s : List UInt8) : k2 s ≤ s.length := by
  induction s with
  | nil => simp [k2]
  | cons b s ih => rw [k2_cons]; simp; split <;> omega
theorem k2_take {s : List UInt8} {i : Nat} (h : i < s.length) : k2 (s.take (i + 1)) = k2 (s.take i) + (if s[i] = 34 ∨ s[i] = 92 then 1 else 0) := by
  rw [List.take_add_one, List.getElem?_eq_getElem h]
  have : ∀ a b : List UInt8, k2 (a ++ b) = k2 a + k2 b := fun a b => by simp [k2]; omega
  rw [this]
  congr 1
  simpa [k2] using k2_cons s[i] []
theorem esc_take {s : List UInt8} {i : Nat} (h : i < s.length) : esc (s.take (i + 1)) = esc (s.take i) ++ escB s[i] := by
  unfold esc
  rw [List.take_add_one, List.getElem?_eq_getElem h, List.flatMap_append]
  simp
theorem L1_step (s : List UInt8) (N : Int) (A : Bool) (i : Nat) (b : UInt8) (hb : (i = 0 ∧ b = 92) ∨ (i = 1 ∧ b = 34)) (h0 : 0 ≤ N) (h1 : N ≤ 3000000000) (hs : s.length ≤ 1000000000) :
    strings_byteStringReplacer_Replace_179_L1 s (N, A, (i : Int)) = some (.go (N + (s.count b : Nat), A || decide (s.count b ≠ 0), ((i + 1 : Nat) : Int))) := by
  have hc := List.count_le_length (a := b) (l := s)
  have hw : ∀ c : Nat, c ≤ 1000000000 → IntKind.i64.wrap (N + IntKind.i64.wrap ((c : Int) * 1)) = N + c := fun c h => by
    rw [w64 (x := (c : Int) * 1) (by omega) (by omega), w64 (by omega) (by omega)]; omega
  have e1 : IntKind.i64.wrap 1 = 1 := rfl
  have e2 : IntKind.i64.wrap 2 = 2 := rfl
  rcases hb with ⟨rfl, rfl⟩ | ⟨rfl, rfl⟩
  · by_cases hz : s.count 92 = 0
    · simp [strings_byteStringReplacer_Replace_179_L1, idx, obind, countH, hz, bindJ, e1]
    · simp [strings_byteStringReplacer_Replace_179_L1, idx, obind, countH, hz, bindJ, e1]
      have := hw (s.count 92) (by omega)
      rw [Int.mul_one] at this
      exact this
  · by_cases hz : s.count 34 = 0
    · simp [strings_byteStringReplacer_Replace_179_L1, idx, obind, countH, hz, bindJ, e2]
    · simp [strings_byteStringReplacer_Replace_179_L1, idx, obind, countH, hz, bindJ, e2]
      have := hw (s.count 34) (by omega)
      rw [Int.mul_one] at this
      exact this
theorem L1_all (s : List UInt8) (hs : s.length ≤ 1000000000) (n : Nat) (hn : 3 ≤ n) : iter (strings_byteStringReplacer_Replace_179_L1 s) n ((s.length : Int), false, 0) = some (.go (((s.length + k2 s : Nat) : Int), decide (k2 s ≠ 0))) := by
  obtain ⟨m, rfl⟩ : ∃ m, n = m + 3 := ⟨n - 3, by omega⟩
  have hc := List.count_le_length (a := (92 : UInt8)) (l := s)
  have s1 := L1_step s s.length false 0 92 (.inl ⟨rfl, rfl⟩) (by omega) (by omega) hs
  have s2 := L1_step s (s.length + (s.count 92 : Nat)) (false || decide (s.count 92 ≠ 0)) 1 34 (.inr ⟨rfl, rfl⟩) (by omega) (by omega) hs
  have s3 : ∀ N A, strings_byteStringReplacer_Replace_179_L1 s (N, A, ((1 + 1 : Nat) : Int)) = some (.stop (.go (N, A))) := fun N A => by simp [strings_byteStringReplacer_Replace_179_L1]
  refine (iter_go (n := m + 2) s1).trans ((iter_go (n := m + 1) s2).trans ((iter_stop (n := m) (s3 _ _)).trans ?_))
  congr 3
  · simp [k2]; omega
  · simp [k2]
    by_cases h1 : s.count 92 = 0 <;> by_cases h2 : s.count 34 = 0 <;> simp_all
theorem L2_all (s : List UInt8) (hs : s.length ≤ 1000000000) (n : Nat) (hn : s.length < n) : iter (strings_byteStringReplacer_Replace_179_L2 s) n ((s.length : Int), false, 0) = some (.go (((s.length + k2 s : Nat) : Int), decide (k2 s ≠ 0))) := by
  obtain ⟨r, e, rfl⟩ := iter_inv (step := strings_byteStringReplacer_Replace_179_L2 s) (fun x => ∃ i : Nat, x = (((s.length + k2 (s.take i) : Nat) : Int), decide (k2 (s.take i) ≠ 0), (i : Int)) ∧ i ≤ s.length) (fun x => s.length - x.2.2.toNat)
    (fun r => r = .go (((s.length + k2 s : Nat) : Int), decide (k2 s ≠ 0))) (by
      rintro _ ⟨i, rfl, hi⟩
      by_cases hlt : i < s.length
      · refine .inl ⟨_, ?_, ⟨i + 1, rfl, hlt⟩, by simp; omega⟩
        have hk := k2_take hlt
        have hk2 := k2_le (s.take i)
        have hle : (s.take i).length ≤ s.length := by simp; omega
        have e1 : IntKind.i64.wrap ((i : Int) + 1) = ((i + 1 : Nat) : Int) := by rw [w64 (by omega) (by omega)]; simp
        have e2 : IntKind.i64.wrap (((s.length + k2 (s.take i) : Nat) : Int) + 1) = ((s.length + (k2 (s.take i) + 1) : Nat) : Int) := by rw [w64 (by omega) (by omega)]; omega
        have hd : decide ((i : Int) < (s.length : Int)) = true := by simpa using hlt
        unfold strings_byteStringReplacer_Replace_179_L2
        simp only [hd, cond_true, idx_get' hlt]
        rw [hk]
        by_cases h1 : s[i] = 34
        · simp only [h1, decide_true, cond_true, bindJ, e1, e2]; simp
        · by_cases h2 : s[i] = 92
          · simp only [h2, bindJ, e1, e2]; simp
          · simp only [h1, h2, decide_false, cond_false, bindJ, e1]; simp
      · obtain rfl : i = s.length := by omega
        refine .inr ⟨_, ?_, rfl⟩
        simp [strings_byteStringReplacer_Replace_179_L2]) n ((s.length : Int), false, 0) ⟨0, by simp [k2], by omega⟩ (by simp; omega)
  exact e
theorem cpy_put (a z new : List UInt8) (h : new.length ≤ z.length) : cpy (a ++ z) a.length (a ++ z).length new = a ++ new ++ z.drop new.length := by
  unfold cpy
  have h1 : (a ++ z).length - a.length = z.length := by simp
  rw [h1, List.take_left, List.take_of_length_le h, Nat.min_eq_left h, ← List.drop_drop, List.drop_left]
  simp
theorem L3_all (s : List UInt8) (hs : s.length ≤ 1000000000) (n : Nat) (hn : s.length < n) : iter (strings_byteStringReplacer_Replace_179_L3 s) n (0, 0, List.replicate (s.length + k2 s) (0 : UInt8)) = some (.go (esc s)) := by
  have hl := esc_len s
  obtain ⟨r, e, rfl⟩ := iter_inv (step := strings_byteStringReplacer_Replace_179_L3 s) (fun x => ∃ (i : Nat) (z : List UInt8), x = (((esc (s.take i)).length : Int), (i : Int), esc (s.take i) ++ z) ∧ i ≤ s.length ∧ z.length = (esc (s.drop i)).length) (fun x => s.length - x.2.1.toNat)
    (fun r => r = .go (esc s)) (by
      rintro _ ⟨i, z, rfl, hi, hz⟩
      by_cases hlt : i < s.length
      · have hd : decide ((i : Int) < (s.length : Int)) = true := by simpa using hlt
        have het := esc_take hlt
        have hez : (esc (s.drop i)).length = (escB s[i]).length + (esc (s.drop (i + 1))).length := by
          rw [List.drop_eq_getElem_cons hlt]; unfold esc; rw [List.flatMap_cons, List.length_append]
        have hel := esc_len (s.take i)
        have hk2 := k2_le (s.take i)
        have hle : (s.take i).length ≤ s.length := by simp; omega
        have e1 : IntKind.i64.wrap ((i : Int) + 1) = ((i + 1 : Nat) : Int) := by rw [w64 (by omega) (by omega)]; simp
        have e2 : ∀ c : Nat, c ≤ 2 → IntKind.i64.wrap (((esc (s.take i)).length : Int) + (c : Int)) = (((esc (s.take i)).length + c : Nat) : Int) := fun c hc => by rw [w64 (by omega) (by omega)]; omega
        unfold strings_byteStringReplacer_Replace_179_L3
        simp only [hd, cond_true, idx_get' hlt]
        have hput : ∀ new : List UInt8, escB s[i] = new → cpy (esc (s.take i) ++ z) (esc (s.take i)).length (esc (s.take i) ++ z).length new = esc (s.take (i + 1)) ++ z.drop new.length := fun new hn => by
          rw [cpy_put _ _ _ (by rw [← hn]; omega), het, hn]
        have hmin : ∀ new : List UInt8, escB s[i] = new → min new.length ((esc (s.take i) ++ z).length - (esc (s.take i)).length) = new.length := fun new hn => by
          rw [← hn, List.length_append]; omega
        refine .inl ⟨(((esc (s.take (i + 1))).length : Int), ((i + 1 : Nat) : Int), esc (s.take (i + 1)) ++ z.drop (escB s[i]).length), ?_, ⟨i + 1, _, rfl, hlt, by rw [List.length_drop]; omega⟩, by simp; omega⟩
        by_cases h1 : s[i] = 34
        · have hb : escB s[i] = [92, 34] := by rw [h1]; rfl
          have hm := hmin _ hb
          rw [hb] at hez
          have hA : decide (s[i] = 34) = true := by simp [h1]
          simp only [hA, cond_true]
          rw [need_pos ⟨by omega, by simp; omega, Int.le_refl _⟩]
          simp only [Int.toNat_natCast]
          rw [hput _ hb, hm, e2 [92, 34].length (Nat.le_refl 2)]
          simp only [bindJ, e1]
          rw [het, hb, List.length_append]
        · by_cases h2 : s[i] = 92
          · have hb : escB s[i] = [92, 92] := by rw [h2]; rfl
            have hm := hmin _ hb
            rw [hb] at hez
            have hA : decide (s[i] = 34) = false := by simp [h1]
            have hB : decide (s[i] = 92) = true := by simp [h2]
            simp only [hA, hB, cond_true, cond_false]
            rw [need_pos ⟨by omega, by simp; omega, Int.le_refl _⟩]
            simp only [Int.toNat_natCast]
            rw [hput _ hb, hm, e2 [92, 92].length (Nat.le_refl 2)]
            simp only [bindJ, e1]
            rw [het, hb, List.length_append]
          · have hb : escB s[i] = [s[i]] := escB_no h1 h2
            rw [hb] at hez
            have hzl : 0 < z.length := by simp at hez; omega
            simp only [h1, h2, decide_false, cond_false]
            rw [idx_get' (i := (esc (s.take i)).length) (by simp; omega)]
            have h1' : IntKind.i64.wrap (((esc (s.take i)).length : Int) + 1) = (((esc (s.take i)).length + 1 : Nat) : Int) := e2 1 (by omega)
            simp only [bindJ, e1, h1', Int.toNat_natCast]
            rw [het, hb]
            have hset : (esc (s.take i) ++ z).set (esc (s.take i)).length s[i] = esc (s.take i) ++ [s[i]] ++ z.drop 1 := by
              obtain ⟨y, z', rfl⟩ := List.exists_cons_of_length_pos hzl
              simp
            rw [hset]
            simp
      · obtain rfl : i = s.length := by omega
        refine .inr ⟨_, ?_, rfl⟩
        have hz0 : z = [] := by
          apply List.length_eq_zero_iff.1
          rw [hz]; simp [esc]
        subst hz0
        simp [strings_byteStringReplacer_Replace_179_L3]) n (0, 0, List.replicate (s.length + k2 s) (0 : UInt8)) ⟨0, _, by simp [esc]; rfl, by omega, by simp [hl]⟩ (by simp; omega)
  exact e
theorem repl_esc (s : List UInt8) (hs : s.length ≤ 1000000000) : strings_byteStringReplacer_Replace_179 (s.length + 3) s = some (esc s) := by
  have hk := k2_le s
  have hj : (cond (decide (16 ≤ (s.length : Int))) (iter (strings_byteStringReplacer_Replace_179_L1 s) (s.length + 3) ((s.length : Int), false, 0)) (iter (strings_byteStringReplacer_Replace_179_L2 s) (s.length + 3) ((s.length : Int), false, 0))) = some (.go (((s.length + k2 s : Nat) : Int), decide (k2 s ≠ 0))) := by
    cases decide (16 ≤ (s.length : Int))
    · exact L2_all s hs _ (by omega)
    · exact L1_all s hs _ (by omega)
  unfold strings_byteStringReplacer_Replace_179
  rw [hj]
  simp only [bindJ]
  by_cases h0 : k2 s = 0
  · simp [h0, esc_id s h0]
  · have hd : (!decide (k2 s ≠ 0)) = false := by simp [h0]
    simp only [hd, cond_false]
    rw [need_pos ⟨by omega, by omega⟩, Int.toNat_natCast, L3_all s hs _ (by omega)]
end Go.Proofs.YtgibkdldfnlglaaGreatDoor
namespace Go.Proofs.YtgibkdldfnlglaaGreatDoor
open Go.Abs
set_option linter.unusedSimpArgs false
set_option maxRecDepth 100000
set_option maxHeartbeats 1600000
theorem disable (w : World) : (callFunc 126 #[]).run Tryz.prog w = .ok (.value (.tuple #[])) w := run_call_mark0 Tryz.func126 (by kernel_rfl) (by kernel_rfl) (by kernel_rfl) .disable (by kernel_rfl) w
theorem enable (w : World) : (callFunc 128 #[]).run Tryz.prog w = .ok (.value (.tuple #[])) w := run_call_mark0 Tryz.func128 (by kernel_rfl) (by kernel_rfl) (by kernel_rfl) .enable (by kernel_rfl) w
theorem acquire (a : Addr) (w : World) : (callFunc 129 #[.pointer (some a)]).run Tryz.prog w = .ok (.value (.tuple #[])) w := run_call_marked Tryz.func129 (by kernel_rfl) (by kernel_rfl) (by kernel_rfl) .acquire (by kernel_rfl) a w
theorem releaseMerge (a : Addr) (w : World) : (callFunc 131 #[.pointer (some a)]).run Tryz.prog w = .ok (.value (.tuple #[])) w := run_call_marked Tryz.func131 (by kernel_rfl) (by kernel_rfl) (by kernel_rfl) .releaseMerge (by kernel_rfl) a w
theorem store_deferred (a : Addr) (x : Value) (u : FrameMode) (w : World) (hc : w.cell? a = some x) (hz : w.frozen? a = false) :
    CallsD Tryz.prog 112 #[.pointer (some a), .bool true] u w fun e u' w' => u' = u ∧ (e = .returned (.tuple #[]) ∧ w' = w.drew.setCell a (.int .u32 1)) := by
  have hc' : w.drew.cell? a = some x := by go_simp
  have hz' : w.drew.frozen? a = false := by go_simp
  have hst := run_call_store (P := Tryz.prog) Tryz.func118 (by kernel_rfl) (by kernel_rfl) (by kernel_rfl) (by kernel_rfl) (k := .u32) (y := 1) hc' hz'
  go_enter_d Tryz.func112, Tryz.ntmps112
  go_wp2
  go_region_calls
  all_goals (go_end0; exact ⟨rfl, rfl⟩)
theorem unlock_deferred (a : Addr) (u : FrameMode) (w : World) (hc : w.cell? a = some (.int .i32 1)) (hz : w.frozen? a = false) :
    CallsD Tryz.prog 111 #[.pointer (some a)] u w fun e u' w' => u' = u ∧ (e = .returned (.tuple #[]) ∧ w' = w.setCell a (.int .i32 0)) := by
  have hd := disable
  have he := enable
  have hr := releaseMerge
  have hadd := run_call_add (P := Tryz.prog) Tryz.func132 (by kernel_rfl) (by kernel_rfl) (by kernel_rfl) .i32 (by kernel_rfl) (y := -1) (s := 0) hc hz (by simp [go_sem]; rfl)
  have hcv := run_convert_to_unsafe (P := Tryz.prog) (src := 197) (dst := 152) Tryz.underlying197 Tryz.underlying152 (by kernel_rfl) hc
  go_enter_d Tryz.func111, Tryz.ntmps111
  go_wp2
  go_end0
  go_wp2
  go_end0
  exact ⟨rfl, rfl⟩
theorem lock_free (a : Addr) (w : World) (hc : w.cell? a = some (.int .i32 0)) (hz : w.frozen? a = false) :
    Calls Tryz.prog 110 #[.pointer (some a)] w fun e w' => e = .returned (.tuple #[]) ∧ w' = w.setCell a (.int .i32 1) := by
  have hd := disable
  have he := enable
  have ha := acquire
  have hcas := run_call_cas_hit (P := Tryz.prog) Tryz.func127 (by kernel_rfl) (by kernel_rfl) (by kernel_rfl) .i32 (by kernel_rfl) (y := 1) hc hz
  have hc' : (w.setCell a (.int .i32 1)).cell? a = some (.int .i32 1) := World.cell?_setCell_same w a _ hc
  have hcv := run_convert_to_unsafe (P := Tryz.prog) (src := 197) (dst := 152) Tryz.underlying197 Tryz.underlying152 (by kernel_rfl) hc'
  go_enter Tryz.func110, Tryz.ntmps110
  go_wp2
  first | go_end0 | (simp only [Exit.inBlock, Exit.then]; refine bodyPost_ret (results_none rfl _ _ _) rfl ?_) | refine bodyPost_ret (results_none rfl _ _ _) rfl ?_
  go_wp2
  go_end0
  exact ⟨rfl, rfl⟩
/-! what is known of memory, and a store into a variable of our own -/
theorem box_cell {w : World} {o : Own} {k b : Nat} {vs : List Value} (h : (box b vs).p w o k) (i : Nat) : w.cell? ⟨b, i, none⟩ = vs[i]? := by
  obtain ⟨_, _, T, fz, e3, _⟩ := h
  rw [cell_at e3]
  simp
theorem box_free {w : World} {o : Own} {k b : Nat} {vs : List Value} (h : (box b vs).p w o k) (i : Nat) (hi : i < vs.length) : w.frozen? ⟨b, i, none⟩ = false := by
  obtain ⟨_, _, T, fz, e3, e4⟩ := h
  exact frozen_at e3 (.inl e4) i (by simpa using hi)
theorem own_set {w : World} {o : Own} {H : List HA} {k b i : Nat} {vs : List Value} (v : Value) (hb : Bnd w o) (hs : Sats w o H) (hk : H[k]? = some (box b vs)) :
    Bnd (w.setCell ⟨b, i, none⟩ v) o ∧ Tr w o (w.setCell ⟨b, i, none⟩ v) o ∧ Sats (w.setCell ⟨b, i, none⟩ v) o (H.set k (box b (vs.set i v))) := by
  obtain ⟨e1, e2, T, fz, e3, e4⟩ := hs k _ hk
  have hsz : (w.setCell ⟨b, i, none⟩ v).heap.size = w.heap.size := by simp [World.setCell]
  have hot : ∀ x, x ≠ b → (w.setCell ⟨b, i, none⟩ v).heap[x]? = w.heap[x]? := fun x hx => by simp [World.setCell, Array.getElem?_modify, Ne.symm hx]
  refine ⟨fun x hx => hb x (by rwa [hsz] at hx), ⟨rfl, rfl, rfl, by rw [hsz]; exact Nat.le_refl _, fun x _ ho => ⟨ho, hot x (by rintro rfl; rw [e1] at ho; cases ho)⟩, fun x _ ho => ⟨ho, hot x (by rintro rfl; rw [e1] at ho; cases ho)⟩⟩, ?_⟩
  refine sats_upd (by rw [hsz]; exact Nat.le_refl _) (fun x _ ho => ⟨rfl, hot x (by rintro rfl; exact ho e1)⟩) hs ⟨e1, by rw [hsz]; exact e2, T, fz, ?_, e4⟩
  simp [World.setCell, Array.getElem?_modify, e3]
theorem own_drew {w : World} {o : Own} {H : List HA} (hb : Bnd w o) (hs : Sats w o H) : Bnd w.drew o ∧ Tr w o w.drew o ∧ Sats w.drew o H :=
  ⟨hb, ⟨rfl, rfl, rfl, Nat.le_refl _, fun _ _ h => ⟨h, rfl⟩, fun _ _ h => ⟨h, rfl⟩⟩, fun j h hj => h.keep (w := w) (w' := w.drew) (Nat.le_refl _) (fun b _ hb => ⟨hb, rfl⟩) (fun b _ hb => ⟨hb, rfl⟩) (hs j h hj)⟩
abbrev OL : List (List UInt8) := [[34], [92, 34], [92], [92, 92]]
theorem slow_ok (b : Nat) (on : Value) (x2 : Int) : Meets Tryz.prog 100 [boxP b 0, .func (.func 86) #[boxP b 0] #[]] [row on 1 (OL.map eStr), box b [.int .u32 0, .int .i32 0, .int .u32 x2, .nilIface, on]]
    (fun v G => v = .tuple #[] ∧ ∃ c v1 v2 v3, G = replA b 1 0 x2 c v1 v2 v3) := by
  intro w o hb hs
  have hbx := hs 1 _ rfl
  have c1 : w.cell? ⟨b, 1, none⟩ = some (.int .i32 0) := box_cell hbx 1
  have f1 := box_free hbx 1 (by simp)
  obtain ⟨hb1, ht1, hs1⟩ := own_set (i := 1) (.int .i32 1) hb hs (k := 1) rfl
  have hbx1 := hs1 1 _ rfl
  have hl := run_call_load (P := Tryz.prog) Tryz.func109 (by kernel_rfl) (by kernel_rfl) (by kernel_rfl) .u32 (by kernel_rfl) (w := w.setCell ⟨b, 1, none⟩ (.int .i32 1)) (a := ⟨b, 0, none⟩) (x := 0) (box_cell hbx1 0)
  have hnot : ∀ (x : Bool) (w : World), (Op.unary .not (.bool x)).run Tryz.prog w = .ok (.bool (!x)) w := fun _ _ => rfl
  have hB := buildOnce_ok b on .nilIface 0 1 x2 _ _ hb1 hs1
  unfold boxP at hB ⊢
  go_enter_defers Tryz.func100, Tryz.ntmps100
  go_wp2_with (go_at_call 110; refine (lock_free ⟨b, 1, none⟩ _ c1 f1).mono ?_; rintro e w' ⟨rfl, rfl⟩)
  go_wp2_with (first | (go_at_call 86; refine hB.mono ?_; rintro e w2 ⟨v, G, o2, rfl, ⟨rfl, c, v1, v2, v3, rfl⟩, hb2, ht2, hs2⟩) | (go_at_call 99; go_in))
  have hx2 := hs2 0 _ rfl
  obtain ⟨hb3, ht3, hs3⟩ := own_drew hb2 hs2
  obtain ⟨hb4, ht4, hs4⟩ := own_set (i := 0) (.int .u32 1) hb3 hs3 (k := 0) rfl
  have hx4 := hs4 0 _ rfl
  obtain ⟨hb5, ht5, hs5⟩ := own_set (i := 1) (.int .i32 0) hb4 hs4 (k := 0) rfl
  refine leaves_cons (f := 112) (args := #[.pointer (some ⟨b, 0, none⟩), .bool true]) (by simp) (by simp [go_sem]) ?_
  refine (store_deferred ⟨b, 0, none⟩ _ .returning _ (box_cell hx2 0) (box_free hx2 0 (by simp))).mono ?_
  rintro e u' w'' ⟨rfl, rfl, rfl⟩
  refine leaves_cons (f := 111) (args := #[.pointer (some ⟨b, 1, none⟩)]) (by simp [settle]) (by simp [go_sem]) ?_
  refine (unlock_deferred ⟨b, 1, none⟩ _ _ (box_cell hx4 1) (box_free hx4 1 (by simp))).mono ?_
  rintro e u' w'' ⟨rfl, rfl, rfl⟩
  have hE : Abs.Ends w o (fun v G => v = Value.tuple #[] ∧ ∃ c v1 v2 v3, G = replA b 1 0 x2 c v1 v2 v3) (.returned (.tuple #[])) ((w2.drew.setCell ⟨b, 0, none⟩ (.int .u32 1)).setCell ⟨b, 1, none⟩ (.int .i32 0)) :=
    ⟨_, _, o2, rfl, ⟨rfl, c, v1, v2, v3, rfl⟩, hb5, (((ht1.trans ht2).trans ht3).trans ht4).trans ht5, hs5⟩
  simpa [Leaves, settle, results, Tryz.results100] using hE
theorem do_ok (b : Nat) (on : Value) (x2 : Int) : Meets Tryz.prog 85 [boxP b 0, .func (.func 86) #[boxP b 0] #[]] [row on 1 (OL.map eStr), box b [.int .u32 0, .int .i32 0, .int .u32 x2, .nilIface, on]]
    (fun v G => v = .tuple #[] ∧ ∃ c v1 v2 v3, G = replA b 1 0 x2 c v1 v2 v3) := by
  intro w o hb hs
  have hl := run_call_load (P := Tryz.prog) Tryz.func109 (by kernel_rfl) (by kernel_rfl) (by kernel_rfl) .u32 (by kernel_rfl) (w := w) (a := ⟨b, 0, none⟩) (x := 0) (box_cell (hs 1 _ rfl) 0)
  have hnot : ∀ (x : Bool) (w : World), (Op.unary .not (.bool x)).run Tryz.prog w = .ok (.bool (!x)) w := fun _ _ => rfl
  have hS := slow_ok b on x2 w o hb hs
  unfold boxP at hS ⊢
  go_enter Tryz.func85, Tryz.ntmps85
  go_wp2_with (first | (go_at_call 100; refine hS.mono ?_; rintro e w2 ⟨v, G, o2, rfl, ⟨rfl, c, v1, v2, v3, rfl⟩, hb2, ht2, hs2⟩) | (go_at_call 99; go_in))
  go_end0
  exact ⟨_, _, o2, rfl, ⟨rfl, c, v1, v2, v3, rfl⟩, hb2, ht2, hs2⟩
end Go.Proofs.YtgibkdldfnlglaaGreatDoor
namespace Go.Proofs.YtgibkdldfnlglaaGreatDoor
open Go.Abs
set_option maxRecDepth 20000
set_option linter.unusedVariables false
def replaceH (x0 x1 x2 : Int) (on : List (List UInt8)) (s : List UInt8) : Option (List UInt8) := need ((x0 = 0 ∧ x1 = 0) ∧ on = OL ∧ s.length ≤ 1000000000) (some (esc s))
theorem replaceH_ok (a_0_0 a_0_1 a_0_2 : Int) (a_0_4 : List (List UInt8)) (a_1 : List UInt8) (a_0b : Nat) (a_0_4v : Value) {r : List UInt8} (h : replaceH a_0_0 a_0_1 a_0_2 a_0_4 a_1 = some r) :
    Meets Tryz.prog 68 [boxP a_0b 0, .string (bs a_1)] [row a_0_4v 1 (a_0_4.map eStr), box a_0b [.int .u32 a_0_0, .int .i32 a_0_1, .int .u32 a_0_2, .nilIface, a_0_4v]] (fun v G => v = .string (bs r) ∧ G = []) := by
  obtain ⟨⟨⟨h0, h1⟩, h2, hl⟩, h'⟩ := need_some h
  clear h
  subst h0 h1 h2
  obtain rfl := Option.some.inj h'
  refine fn_of_run Tryz.func68 rfl Tryz.ntmps68 rfl (fun w0 o0 => ?_)
  refine run_seq ?_
  refine run_region' ?_
  refine oy rfl rfl (y_assign rfl) ?_
  refine ops_nil ?_
  refine goes_code ?_
  refine run_seq ?_
  refine run_region' ?_
  refine oy rfl rfl (y_move rfl) ?_
  refine oy rfl rfl (y_nilBox rfl) ?_
  refine oy rfl rfl (y_fieldAddr_box (sz := 2) Tryz.runUnderlying128 rfl Tryz.sizeOf124 rfl) ?_
  refine oy rfl rfl (y_move rfl) ?_
  refine oy rfl rfl (y_makeBound (vs := [boxP a_0b 0]) rfl) ?_
  refine ot rfl rfl (t_callx (vs := [boxP a_0b 0, .func (.func 86) #[boxP a_0b 0] #[]]) (cs := []) [(0, 2), (1, 2)] rfl Tryz.call85 rfl (do_ok a_0b a_0_4v a_0_2) (showsX_lend 0 rfl (showsX_lend 1 rfl showsX_nil)) rfl (.inl rfl)) ?_
  rintro _ _ ⟨_, ⟨rfl, c, v1, v2, v3, rfl⟩, rfl⟩
  refine ops_nil ?_
  refine goes_code ?_
  refine run_seq ?_
  refine run_region' ?_
  refine oy rfl rfl (y_move rfl) ?_
  refine oy rfl rfl (y_nilBox rfl) ?_
  refine oy rfl rfl (y_fieldAddr_box (sz := 0) Tryz.runUnderlying128 rfl Tryz.sizeOf126 rfl) ?_
  refine oy rfl rfl (y_load_box (r := .iface 176 (boxP c 0)) 2 Tryz.isAgg126 rfl rfl rfl) ?_
  refine oy rfl rfl (y_move rfl) ?_
  refine ot rfl rfl (t_invoke (vs := [.string (bs a_1)]) [(4, 1), (5, 1), (6, 1), (3, 2)] rfl (fun _ _ _ _ => method_ptr Tryz.typeInfo176 rfl rfl rfl Tryz.runUnderlying176) Tryz.call179 rfl
    (strings_byteStringReplacer_Replace_179_ok _ a_1 c v1 v2 v3 (repl_esc a_1 hl)) (showsX_look 4 rfl views_row (showsX_look 5 rfl views_row (showsX_look 6 rfl views_row (showsX_lend 3 rfl showsX_nil)))) rfl (.inr (by rintro _ _ ⟨rfl, rfl⟩ g hg; cases hg))) ?_
  rintro _ _ ⟨_, ⟨rfl, rfl⟩, rfl⟩
  refine oy rfl rfl (y_assign rfl) ?_
  refine ops_nil ?_
  refine goes_code ?_
  refine run_ret ?_
  refine fin_slots [4] [.string (bs (esc a_1))] [] [] Tryz.results68 rfl (by decide) rfl ?_
  exact ⟨rfl, rfl⟩
end Go.Proofs.YtgibkdldfnlglaaGreatDoor
