/-
  The walks: weirgate_compile_types_after_66.
-/
import Derived.Test.YtgjcniomhahgkaaGreatDoorM11
import Derived.Test.YtgjcniomhahgkaaGreatDoorM9
import Derived.Test.YtgjcniomhahgkaaGreatDoorM23
set_option linter.unusedSimpArgs false
set_option linter.unusedVariables false
namespace Go.Proofs.YtgjcniomhahgkaaGreatDoor
open Go.Abs
set_option maxRecDepth 20000
set_option maxHeartbeats 2000000
instance weirgate_compile_types_after_66_k:Con Tryz.prog 66 0 (∀ {n:Nat} {t_0:zl} {x_1:z6} {at_2:Int} {t_0_stack_v:Value} {t_0_slots_v:Value} {t_0_loops_v:Value} {r:zl×Bool},zy n t_0 x_1 at_2=some r→Meets Tryz.prog 66 [.agg #[t_0_stack_v,t_0_slots_v,t_0_loops_v],.agg #[.int .i64 x_1.Op,.int .i64 x_1.A,.string (bs x_1.S)],.int .i64 at_2] [ro t_0_stack_v 1 (t_0.stack_.map (eInt .i64)),ro t_0_slots_v 1 (t_0.slots_.map (eInt .i64)),ro t_0_loops_v 1 (t_0.loops_.map (eInt .i64))] (fun v G=>∃ v0 v1 v2,v = .tuple #[.agg #[v0,v1,v2],.bool r.2]∧G=[ro v0 1 (r.1.stack_.map (eInt .i64)),ro v1 1 (r.1.slots_.map (eInt .i64)),ro v2 1 (r.1.loops_.map (eInt .i64))])):=⟨Tryz.call66,by
 intros; rename_i h; unfold zy at h
 exact dfn (.c .e (.c .e (.c .e (.c .e (.c .e (.c .e (.j 0 [2,3,4,6,8,47] [(73,.t 0)] [.k 3,.k 0,.k 1,.k 2,.k 4,.k 5] .e (.c .e (.c (.d [0,1,2,3,4,5,6,7,8,9,10] [5] [.t,.t,.t,.t,.t,.t,.t,.t,.t,.f,.t] [] .e) (.c (.d [0,1,2,3,4,5,6] [5] [.t,.t,.t,.t,.t,.f,.t] [] .e) (.c .e (.c (.c .e (.j 1 [3,4,6,14] [] [.b 0 [.k,.g 0],.k 6,.o 0 0,.k 3,.k 4,.k 5] .e (.d [0,1,2,3,4,5,6,7,8,9,10] [5] [.t,.t,.t,.t,.t,.t,.t,.t,.t,.f,.t] [] .e))) .e)))))))))))) Tryz.func66 Tryz.ntmps66 Tryz.results66 h⟩
end Go.Proofs.YtgjcniomhahgkaaGreatDoor
