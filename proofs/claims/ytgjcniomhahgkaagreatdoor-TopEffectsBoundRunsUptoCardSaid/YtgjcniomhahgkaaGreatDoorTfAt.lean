/-
  The walks: weirgate_typing_typer_operator_234_v2.
-/
import Derived.Test.YtgjcniomhahgkaaGreatDoorM11
import Derived.Test.YtgjcniomhahgkaaGreatDoorM9
import Derived.Test.YtgjcniomhahgkaaGreatDoorM23
set_option linter.unusedSimpArgs false
set_option linter.unusedVariables false
namespace Go.Proofs.YtgjcniomhahgkaaGreatDoor
open Go.Abs
set_option maxRecDepth 20000
set_option maxHeartbeats 2000000
instance weirgate_typing_typer_operator_234_v2_k:Con Tryz.prog 234 22 (∀ {n:Nat} {t_0_0:(List zk)} {op_1:Int} {l_2:(List Int)} {t_0b:Nat} {t_0_0v:Value} {l_2v:Value} {r:Int},z24 n t_0_0 op_1 l_2=some r→Meets Tryz.prog 234 [boxP t_0b 0,.int .i64 op_1,l_2v] [row t_0_0v 2 (t_0_0.map zk.enc),box t_0b [t_0_0v,.map none],ro l_2v 1 (l_2.map (eInt .i64))] (fun v G=>∃ v0 v1 v2 v3 v4 v5,v = .int .i64 r∧G=[row t_0_0v 2 (t_0_0.map zk.enc),mapis v0 (mcells (fun n:Int=>Value.int .i64 n) (fun v:Value=>v) ([(8,.func (.func 273) #[] #[boxP v1 0,boxP v2 0]),(11,.func (.func 273) #[] #[boxP v1 0,boxP v2 0]),(12,.func (.func 273) #[] #[boxP v1 0,boxP v2 0]),(13,.func (.func 273) #[] #[boxP v1 0,boxP v2 0]),(14,.func (.func 273) #[] #[boxP v1 0,boxP v2 0]),(10,.func (.func 275) #[] #[]),(15,.func (.func 276) #[] #[boxP v3 0]),(16,.func (.func 276) #[] #[boxP v3 0]),(17,.func (.func 276) #[] #[boxP v3 0]),(18,.func (.func 276) #[] #[boxP v3 0]),(19,.func (.func 277) #[] #[]),(20,.func (.func 277) #[] #[]),(23,.func (.func 277) #[] #[]),(9,.func (.func 273) #[] #[boxP v4 0,boxP v5 0]),(21,.func (.func 273) #[] #[boxP v4 0,boxP v5 0]),(22,.func (.func 273) #[] #[boxP v4 0,boxP v5 0])]:List (Int×Value))),box v1 [.int .i64 1],box v2 [.int .i64 1],box v3 [.func (.func 275) #[] #[]],box v4 [.int .i64 3],box v5 [.int .i64 3],box t_0b [t_0_0v,.map (some v0)]])):=⟨Tryz.call234,by
 intros; rename_i h; unfold z24 at h
 exact dfn .e Tryz.func234 Tryz.ntmps234 Tryz.results234 h⟩
end Go.Proofs.YtgjcniomhahgkaaGreatDoor
