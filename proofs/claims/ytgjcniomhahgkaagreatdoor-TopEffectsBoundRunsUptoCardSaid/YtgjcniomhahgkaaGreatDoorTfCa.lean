/-
  The walks: top_TopEffectsBoundRuns.
-/
import Derived.Test.YtgjcniomhahgkaaGreatDoorM11
import Derived.Test.YtgjcniomhahgkaaGreatDoorM9
import Derived.Test.YtgjcniomhahgkaaGreatDoorM23
import Derived.Test.YtgjcniomhahgkaaGreatDoorTfBy
import Derived.Test.YtgjcniomhahgkaaGreatDoorTfBz
set_option linter.unusedSimpArgs false
set_option linter.unusedVariables false
namespace Go.Proofs.YtgjcniomhahgkaaGreatDoor
open Go.Abs
set_option maxRecDepth 20000
set_option maxHeartbeats 2000000
instance top_TopEffectsBoundRuns_k:Con Tryz.prog 3 0 (∀ {n:Nat} {p_0:zG} {e_1:zP} {p_0_Effectsv:Value} {p_0_Codev:Value} {e_1_Headersv:Value} {r:Bool},z45 n p_0 e_1=some r→Meets Tryz.prog 3 [.agg #[.string (bs p_0.Name),p_0_Effectsv,p_0_Codev],.agg #[e_1_Headersv,.int .i64 e_1.Status]] [ro p_0_Effectsv 1 (p_0.Effects.map (eInt .i64)),nro p_0_Codev zx p_0.Code,ro e_1_Headersv 2 (e_1.Headers.map zp.enc),globA] (fun v G=>v = .bool r∧G=[])):=⟨Tryz.call3,by
 intros; rename_i h; unfold z45 at h
 exact dfn (.c .e (.c .e (.c .e (.j 100 [2,3,5,7,11] [(13,.k)] [.k 4,.k 0,.k 1,.k 5,.k 2,.k 12,.k 10,.k 11,.k 3] (.q (.f 0 (.f 1 (.f 3 (.b 2 (.b 4 (.o 5 (.o 6 .z)) (.o 5 (.o 4 (.o 6 .z)))) (.o 5 (.o 2 (.o 4 (.o 6 .z)))))))) [] [] .e) (.c .e (.c .e (.c .e (.c .e (.j 0 [] [] [.k 14] (.l 0 [3,14,179] [(180,.t 0)] [.k 9,.k 10,.k 17,.k 15,.k 16,.k 14] .e) .e))))))))) Tryz.func3 Tryz.ntmps3 Tryz.results3 h⟩
end Go.Proofs.YtgjcniomhahgkaaGreatDoor
