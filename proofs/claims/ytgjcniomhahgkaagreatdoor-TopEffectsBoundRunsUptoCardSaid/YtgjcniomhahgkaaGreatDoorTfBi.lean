/-
  The walks: machine_apply.
-/
import Derived.Test.YtgjcniomhahgkaaGreatDoorM11
import Derived.Test.YtgjcniomhahgkaaGreatDoorM9
import Derived.Test.YtgjcniomhahgkaaGreatDoorTfAp
import Derived.Test.YtgjcniomhahgkaaGreatDoorTfBh
set_option linter.unusedSimpArgs false
set_option linter.unusedVariables false
namespace Go.Proofs.YtgjcniomhahgkaaGreatDoor
open Go.Abs
set_option maxRecDepth 20000
set_option maxHeartbeats 2000000
instance machine_apply_k:Con Tryz.prog 158 0 (∀ {n:Nat} {op_0:Int} {l_1:(List zj)} {l_1v:Value} {r:Pn (zj)},z5v n op_0 l_1=some r→z60 Tryz.prog 158 [.int .i64 op_0,l_1v] [ro l_1v 3 (l_1.map zj.enc)] (fun v G=>∃ q,r = .ret q∧(v = .agg #[.int .i64 q.Type_,.int .i64 q.N,.string (bs q.S)]∧G=[])) (fun v=>∃ e,r = .pan e∧v = .iface 158 (.agg #[.int .i64 e]))):=⟨Tryz.call158,by
 intros; rename_i h; unfold z5v at h
 exact dfp (.q (.f 0 (.f 1 (.f 2 (.f 3 (.f 4 (.f 5 (.f 6 (.f 7 (.f 8 (.b 9 (.o 10 (.o 11 (.o 12 .z))) (.o 10 (.o 9 (.o 11 (.o 12 .z)))))))))))))) [] [] (.c .e (.c .e (.c .e (.c .e (.c .e (.c .e (.c .e (.c .e (.c .e (.c (.d [0,1,2,3,4,5] [1] [.t,.t,.t,.f,.f,.f] [] .e) .e))))))))))) Tryz.func158 Tryz.ntmps158 Tryz.results158 h⟩
end Go.Proofs.YtgjcniomhahgkaaGreatDoor
