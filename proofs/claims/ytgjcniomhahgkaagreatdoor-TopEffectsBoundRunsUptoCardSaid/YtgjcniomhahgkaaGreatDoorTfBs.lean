/-
  The walks: weirgate_compile_maker_code_25.
-/
import Derived.Test.YtgjcniomhahgkaaGreatDoorM11
import Derived.Test.YtgjcniomhahgkaaGreatDoorM9
import Derived.Test.YtgjcniomhahgkaaGreatDoorM21
set_option linter.unusedSimpArgs false
set_option linter.unusedVariables false
namespace Go.Proofs.YtgjcniomhahgkaaGreatDoor
open Go.Abs
set_option maxRecDepth 20000
set_option maxHeartbeats 2000000
theorem z54 {n:Nat} {rec_weirgate_compile_maker_code_25:zr→(List z7)→Int→Option (zr)} [Con Tryz.prog 25 9 (∀ {m_0:zr} {l_1:(List z7)} {known_2:Int} {m_0b:Nat} {m_0_l_v:Value} {l_1v:Value} {r:zr},rec_weirgate_compile_maker_code_25 m_0 l_1 known_2=some r→Meets Tryz.prog 25 [boxP m_0b 0,l_1v,.int .i64 known_2] [row m_0_l_v 3 (m_0.l_.map z6.enc),box m_0b [m_0_l_v],nro l_1v zx l_1] (fun v G=>∃ v0,v = .tuple #[]∧G=[row v0 3 (r.l_.map z6.enc),box m_0b [v0]]))]:∀ {m_0:zr} {l_1:(List z7)} {known_2:Int} {m_0b:Nat} {m_0_l_v:Value} {l_1v:Value} {r:zr},z1K n rec_weirgate_compile_maker_code_25 m_0 l_1 known_2=some r→Meets Tryz.prog 25 [boxP m_0b 0,l_1v,.int .i64 known_2] [row m_0_l_v 3 (m_0.l_.map z6.enc),box m_0b [m_0_l_v],nro l_1v zx l_1] (fun v G=>∃ v0,v = .tuple #[]∧G=[row v0 3 (r.l_.map z6.enc),box m_0b [v0]]):=by
 intros; rename_i h; unfold z1K at h
 exact dfn (.l 1 [0,6,29,30] [(2,.t 1),(31,.t 3)] [.b 1 [.g 0],.w 4 0,.k 3,.k 2] (.c (.j 1 [0,6,29,30,31] [(2,.t 1)] [.b 0 [.g 0],.w 2 0,.k 2,.k 3] (.j 1 [0,2,6,8,29,30,31] [] [.b 10 [.g 0],.w 0 0,.k 2,.k 8,.k 5,.k 6,.k 7,.k 3] .e .e) .e) .e)) Tryz.func25 Tryz.ntmps25 Tryz.results25 h
theorem z5U {n:Nat}:∀ {m_0:zr} {l_1:(List z7)} {known_2:Int} {m_0b:Nat} {m_0_l_v:Value} {l_1v:Value} {r:zr},z1w n  m_0 l_1 known_2=some r→Meets Tryz.prog 25 [boxP m_0b 0,l_1v,.int .i64 known_2] [row m_0_l_v 3 (m_0.l_.map z6.enc),box m_0b [m_0_l_v],nro l_1v zx l_1] (fun v G=>∃ v0,v = .tuple #[]∧G=[row v0 3 (r.l_.map z6.enc),box m_0b [v0]]):=by
 induction n with
 | zero=>intros; rename_i h; cases h
 | succ n ih=>exact @z54 n _ ⟨Tryz.call25,ih⟩
instance weirgate_compile_maker_code_25_k:Con Tryz.prog 25 0 (∀ {n:Nat} {m_0:zr} {l_1:(List z7)} {known_2:Int} {m_0b:Nat} {m_0_l_v:Value} {l_1v:Value} {r:zr},z1w n m_0 l_1 known_2=some r→Meets Tryz.prog 25 [boxP m_0b 0,l_1v,.int .i64 known_2] [row m_0_l_v 3 (m_0.l_.map z6.enc),box m_0b [m_0_l_v],nro l_1v zx l_1] (fun v G=>∃ v0,v = .tuple #[]∧G=[row v0 3 (r.l_.map z6.enc),box m_0b [v0]])):=⟨Tryz.call25,z5U⟩
end Go.Proofs.YtgjcniomhahgkaaGreatDoor
