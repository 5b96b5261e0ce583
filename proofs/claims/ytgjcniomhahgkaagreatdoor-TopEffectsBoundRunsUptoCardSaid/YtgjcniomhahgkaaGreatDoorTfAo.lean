/-
  The walks: compile_value, weirgate_compile_maker_put_58, weirgate_compile_types_leaf_152, weirgate_compile_types_operator_1_153, weirgate_compile_types_pop_112, wire_GetInt, wire_Int.
-/
import Derived.Test.YtgjcniomhahgkaaGreatDoorM11
set_option linter.unusedSimpArgs false
set_option linter.unusedVariables false
namespace Go.Proofs.YtgjcniomhahgkaaGreatDoor
open Go.Abs
set_option maxRecDepth 20000
set_option maxHeartbeats 2000000
instance weirgate_compile_maker_put_58_k:Con Tryz.prog 58 0 (∀ {m_0:zr} {op_1:Int} {a_2:Int} {s_3:(List UInt8)} {m_0b:Nat} {m_0_l_v:Value} {r:Int×zr},zM m_0 op_1 a_2 s_3=some r→Meets Tryz.prog 58 [boxP m_0b 0,.int .i64 op_1,.int .i64 a_2,.string (bs s_3)] [row m_0_l_v 3 (m_0.l_.map z6.enc),box m_0b [m_0_l_v]] (fun v G=>∃ v0,v = .int .i64 r.1∧G=[row v0 3 (r.2.l_.map z6.enc),box m_0b [v0]])):=⟨Tryz.call58,by
 intros; rename_i h; unfold zM at h
 exact dfn .e Tryz.func58 Tryz.ntmps58 Tryz.results58 h⟩
instance wire_Int_k:Con Tryz.prog 71 0 (∀ {n:Nat} {n_0:Int} {r:(List UInt8)},z7W n n_0=some r→Meets Tryz.prog 71 [.int .i64 n_0] [] (fun v G=>∃ v0,v=v0∧G=[row v0 1 (r.map eB8)])):=⟨Tryz.call71,by
 intros; rename_i h; unfold z7W at h
 exact dfn (.j 1 [] [(3,.i .u64 1),(4,.g 0)] [.w 2 0] (.l 1 [] [(3,.i .u64 1),(4,.g 0)] [.w 2 0] .e) .e) Tryz.func71 Tryz.ntmps71 Tryz.results71 h⟩
instance wire_GetInt_k:Con Tryz.prog 63 0 (∀ {n:Nat} {b_0:(List UInt8)} {b_0v:Value} {r:Int×Int×Int},z7k n b_0=some r→Meets Tryz.prog 63 [b_0v] [ro b_0v 1 (b_0.map eB8)] (fun v G=>v = .tuple #[.int .i64 r.1,.int .i64 r.2.1,.int .i64 r.2.2]∧G=[])):=⟨Tryz.call63,by
 intros; rename_i h; unfold z7k at h
 exact dfn (.p (.j 0 [] [(5,.i .u64 1),(6,.t 2)] [] (.l 0 [6,9,10] [(5,.i .u64 1),(11,.t 2)] [.k 0] (.c (.p (.p (.j 0 [5,6,7,8,9,10,11] [(24,.t 0)] [.k 0] .e .e))) .e)) .e)) Tryz.func63 Tryz.ntmps63 Tryz.results63 h⟩
instance weirgate_compile_types_leaf_152_k:Con Tryz.prog 152 0 (∀ {t_0:zl} {x_1:z6} {t_0_stack_v:Value} {t_0_slots_v:Value} {t_0_loops_v:Value} {r:Int},z1s t_0 x_1=some r→Meets Tryz.prog 152 [.agg #[t_0_stack_v,t_0_slots_v,t_0_loops_v],.agg #[.int .i64 x_1.Op,.int .i64 x_1.A,.string (bs x_1.S)]] [ro t_0_stack_v 1 (t_0.stack_.map (eInt .i64)),ro t_0_slots_v 1 (t_0.slots_.map (eInt .i64)),ro t_0_loops_v 1 (t_0.loops_.map (eInt .i64))] (fun v G=>v = .int .i64 r∧G=[])):=⟨Tryz.call152,by
 intros; rename_i h; unfold z1s at h
 exact dfn (.p (.j 0 [2,3,5] [(14,.t 0)] [.k 3,.k 0,.k 1,.k 2,.k 4] .e .e)) Tryz.func152 Tryz.ntmps152 Tryz.results152 h⟩
instance weirgate_compile_types_operator_1_153_k:Con Tryz.prog 153 0 (∀ {k_0:Int} {a_1:Int} {a_1b:Nat} {r:Bool},z1A k_0 a_1=some r→Meets Tryz.prog 153 [.int .i64 k_0,boxP a_1b 0] [box a_1b [.int .i64 a_1]] (fun v G=>v = .bool r∧G=[box a_1b [.int .i64 a_1]])):=⟨Tryz.call153,by
 intros; rename_i h; unfold z1A at h
 exact dfn .e Tryz.func153 Tryz.ntmps153 Tryz.results153 h⟩
instance compile_value_k:Con Tryz.prog 154 0 (∀ {op_0:Int} {kind_1:Int} {r:Int},z4r op_0 kind_1=some r→Meets Tryz.prog 154 [.int .i64 op_0,.int .i64 kind_1] [] (fun v G=>v = .int .i64 r∧G=[])):=⟨Tryz.call154,by
 intros; rename_i h; unfold z4r at h
 exact dfn (.j 0 [] [] [] (.j 0 [1,5] [(6,.t 0)] [] .e (.c .e (.c .e (.j 0 [1,5] [(20,.t 0)] [] .e (.c .e (.j 0 [1] [(26,.t 0)] [] .e .e)))))) .e) Tryz.func154 Tryz.ntmps154 Tryz.results154 h⟩
instance weirgate_compile_types_pop_112_k:Con Tryz.prog 112 0 (∀ {t_0:zl} {kind_1:Int} {t_0_stack_v:Value} {t_0_slots_v:Value} {t_0_loops_v:Value} {r:zl×Bool},z1e t_0 kind_1=some r→Meets Tryz.prog 112 [.agg #[t_0_stack_v,t_0_slots_v,t_0_loops_v],.int .i64 kind_1] [ro t_0_stack_v 1 (t_0.stack_.map (eInt .i64)),ro t_0_slots_v 1 (t_0.slots_.map (eInt .i64)),ro t_0_loops_v 1 (t_0.loops_.map (eInt .i64))] (fun v G=>∃ v0 v1 v2,v = .tuple #[.agg #[v0,v1,v2],.bool r.2]∧G=[ro v0 1 (r.1.stack_.map (eInt .i64)),ro v1 1 (r.1.slots_.map (eInt .i64)),ro v2 1 (r.1.loops_.map (eInt .i64))])):=⟨Tryz.call112,by
 intros; rename_i h; unfold z1e at h
 exact dfn .e Tryz.func112 Tryz.ntmps112 Tryz.results112 h⟩
end Go.Proofs.YtgjcniomhahgkaaGreatDoor
