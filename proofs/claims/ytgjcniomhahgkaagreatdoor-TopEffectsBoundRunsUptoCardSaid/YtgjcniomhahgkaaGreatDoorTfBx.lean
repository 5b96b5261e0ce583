/-
  The walks: compile_Check.
-/
import Derived.Test.YtgjcniomhahgkaaGreatDoorM11
import Derived.Test.YtgjcniomhahgkaaGreatDoorM9
import Derived.Test.YtgjcniomhahgkaaGreatDoorM31
import Derived.Test.YtgjcniomhahgkaaGreatDoorTfBw
set_option linter.unusedSimpArgs false
set_option linter.unusedVariables false
namespace Go.Proofs.YtgjcniomhahgkaaGreatDoor
open Go.Abs
set_option maxRecDepth 20000
set_option maxHeartbeats 2000000
instance compile_Check_k:Con Tryz.prog 28 0 (∀ {n:Nat} {m_0:zH} {m_0_Effectsv:Value} {m_0_Codev:Value} {r:Int},z3B n m_0=some r→Meets Tryz.prog 28 [.agg #[.string (bs m_0.Name),m_0_Effectsv,m_0_Codev]] [ro m_0_Effectsv 1 (m_0.Effects.map (eInt .i64)),ro m_0_Codev 3 (m_0.Code.map z6.enc)] (fun v G=>v = .int .i64 r∧G=[])):=⟨Tryz.call28,by
 intros; rename_i h; unfold z3B at h
 exact dfn (.c .e (.j 0 [3,4] [] [.k 4,.p 3 0] (.l 0 [1,3,4,5,35,36] [(37,.t 1)] [.k 2,.k 0,.k 1,.k 4,.p 3 2] (.c (.c .e (.c .e (.j 0 [1,3,4,5,6,7,8,35,36,37] [] [.k 0,.k 1,.k 2,.k 3,.p 4 0,.k 5,.k 9,.k 10,.k 11,.k 12] (.c (.c .e (.j 1 [1,3,4,5,6,7,8,10,35,36,37] [] [.k 0,.k 1,.k 2,.k 3,.k 4,.k 5,.k 9,.k 10,.k 11,.k 12,.b 13 [.k,.k,.g 0],.o 0 0] .e .e)) .e) (.j 0 [1,3,4,5,35,36,37] [(130,.t 1)] [.k 0,.k 1,.k 2,.k 3,.p 4 2] (.c .e .e) .e)))) .e)) .e)) Tryz.func28 Tryz.ntmps28 Tryz.results28 h⟩
end Go.Proofs.YtgjcniomhahgkaaGreatDoor
