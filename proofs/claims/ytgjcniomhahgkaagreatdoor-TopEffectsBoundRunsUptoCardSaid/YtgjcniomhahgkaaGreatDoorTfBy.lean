/-
  The walks: compile_Decode.
-/
import Derived.Test.YtgjcniomhahgkaaGreatDoorM11
import Derived.Test.YtgjcniomhahgkaaGreatDoorM9
import Derived.Test.YtgjcniomhahgkaaGreatDoorM23
import Derived.Test.YtgjcniomhahgkaaGreatDoorTfBx
set_option linter.unusedSimpArgs false
set_option linter.unusedVariables false
namespace Go.Proofs.YtgjcniomhahgkaaGreatDoor
open Go.Abs
set_option maxRecDepth 20000
set_option maxHeartbeats 2000000
instance compile_Decode_k:Con Tryz.prog 11 0 (∀ {n:Nat} {b_0:(List UInt8)} {b_0v:Value} {r:zH×Int},z3Z n b_0=some r→Meets Tryz.prog 11 [b_0v] [ro b_0v 1 (b_0.map eB8)] (fun v G=>∃ v0 v1,v = .tuple #[.agg #[.string (bs r.1.Name),v0,v1],.int .i64 r.2]∧G=[row v0 1 (r.1.Effects.map (eInt .i64)),row v1 3 (r.1.Code.map z6.enc)])):=⟨Tryz.call11,by
 intros; rename_i h; unfold z3Z at h
 exact dfn (.c .e (.c .e (.c .e (.j 1 [2,11] [] [.k 1,.b 7 [.k,.k,.g 0],.k 4,.w 0 0] (.l 1 [2,9,11,77,78] [(79,.t 1)] [.k 1,.k 6,.b 7 [.k,.k,.g 0],.k 4,.w 2 0,.k 8] (.c (.d [0,1,2,3,4,5,6,7,8,9,10,11,12,13,14,15,16,17,18] [] [.t,.t,.t,.t,.t,.t,.t,.t,.t,.t,.t,.t,.t,.t,.t,.f,.f,.t,.f] [[],[],[18],[],[16]] .e) .e)) .e)))) Tryz.func11 Tryz.ntmps11 Tryz.results11 h⟩
end Go.Proofs.YtgjcniomhahgkaaGreatDoor
