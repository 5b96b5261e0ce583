/-
  The walks: ref20_RightBlock.
-/
import Derived.Test.YtgjcniomhahgkaaGreatDoorM11
import Derived.Test.YtgjcniomhahgkaaGreatDoorM9
import Derived.Test.YtgjcniomhahgkaaGreatDoorTfAe
set_option linter.unusedSimpArgs false
set_option linter.unusedVariables false
namespace Go.Proofs.YtgjcniomhahgkaaGreatDoor
open Go.Abs
set_option maxRecDepth 20000
set_option maxHeartbeats 2000000
theorem z7t {n:Nat} {rec_ref20_RightBlock:(List z7)→(List Int)→Int→Option (Bool)} [Con Tryz.prog 20 9 (∀ {l_0:(List z7)} {vars_1:(List Int)} {deep_2:Int} {l_0v:Value} {vars_1v:Value} {r:Bool},rec_ref20_RightBlock l_0 vars_1 deep_2=some r→Meets Tryz.prog 20 [l_0v,vars_1v,.int .i64 deep_2] [nro l_0v zx l_0,ro vars_1v 1 (vars_1.map (eInt .i64))] (fun v G=>v = .bool r∧G=[]))]:∀ {l_0:(List z7)} {vars_1:(List Int)} {deep_2:Int} {l_0v:Value} {vars_1v:Value} {r:Bool},z2y n rec_ref20_RightBlock l_0 vars_1 deep_2=some r→Meets Tryz.prog 20 [l_0v,vars_1v,.int .i64 deep_2] [nro l_0v zx l_0,ro vars_1v 1 (vars_1.map (eInt .i64))] (fun v G=>v = .bool r∧G=[]):=by
 intros; rename_i h; unfold z2y at h
 exact dfn (.j 0 [] [] [] (.l 1 [0,2] [(1,.g 0),(7,.t 2)] [.o 1 0,.k 0] (.c (.j 1 [0,2,7] [(1,.g 0)] [.o 0 0,.k 1] (.c .e (.c .e (.c .e (.j 0 [0,1,2,7,8] [] [.k 1,.k 0,.k 6,.k 3,.k 4,.k 5] .e (.c .e (.c (.c .e (.q (.f 1 (.f 3 (.f 4 (.f 5 (.b 0 (.b 2 (.o 6 (.o 7 (.f 8 .z))) (.o 6 (.o 2 (.o 7 (.f 8 .z))))) (.o 6 (.o 0 (.o 2 (.o 7 (.f 8 .z)))))))))) [] [] .e)) (.c .e (.d [0,1,2,3,4,5,6,7,8,9,10,11] [] [.t,.t,.t,.t,.t,.t,.t,.t,.t,.f,.t,.t] [] .e)))))))) .e) .e)) .e) Tryz.func20 Tryz.ntmps20 Tryz.results20 h
theorem z8I {n:Nat}:∀ {l_0:(List z7)} {vars_1:(List Int)} {deep_2:Int} {l_0v:Value} {vars_1v:Value} {r:Bool},z2E n  l_0 vars_1 deep_2=some r→Meets Tryz.prog 20 [l_0v,vars_1v,.int .i64 deep_2] [nro l_0v zx l_0,ro vars_1v 1 (vars_1.map (eInt .i64))] (fun v G=>v = .bool r∧G=[]):=by
 induction n with
 | zero=>intros; rename_i h; cases h
 | succ n ih=>exact @z7t n _ ⟨Tryz.call20,ih⟩
instance ref20_RightBlock_k:Con Tryz.prog 20 0 (∀ {n:Nat} {l_0:(List z7)} {vars_1:(List Int)} {deep_2:Int} {l_0v:Value} {vars_1v:Value} {r:Bool},z2E n l_0 vars_1 deep_2=some r→Meets Tryz.prog 20 [l_0v,vars_1v,.int .i64 deep_2] [nro l_0v zx l_0,ro vars_1v 1 (vars_1.map (eInt .i64))] (fun v G=>v = .bool r∧G=[])):=⟨Tryz.call20,z8I⟩
end Go.Proofs.YtgjcniomhahgkaaGreatDoor
