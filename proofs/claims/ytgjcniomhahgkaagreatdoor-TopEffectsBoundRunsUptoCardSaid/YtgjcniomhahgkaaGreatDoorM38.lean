/-
  Texts that stand side by side: TfAk, TfAl.
-/
import Derived.Test.YtgjcniomhahgkaaGreatDoorM11
import Derived.Test.YtgjcniomhahgkaaGreatDoorM9
import Derived.Test.YtgjcniomhahgkaaGreatDoorM37
set_option linter.unusedSimpArgs false
set_option linter.unusedVariables false
namespace Go.Proofs.YtgjcniomhahgkaaGreatDoor
open Go.Abs
set_option maxRecDepth 20000
set_option maxHeartbeats 2000000
instance weirgate_parser_reader_set_219_k:Con Tryz.prog 219 0 (∀ {n:Nat} {r_0:z8} {s_1:zB} {r_0b:Nat} {r_0_l_v:Value} {s_1b:Nat} {s_1_X_Argsv:Value} {s_1_Bodyv:Value} {s_1_Elsev:Value} {r:z8×zB},z3U n r_0 s_1=some r→Meets Tryz.prog 219 [boxP r_0b 0,boxP s_1b 0] [ro r_0_l_v 3 (r_0.l_.map zo.enc),box r_0b [r_0_l_v,.int .i64 r_0.i_,.int .i64 r_0.at_],nrow s_1_X_Argsv zL s_1.X.Args,nrow s_1_Bodyv zF s_1.Body,nrow s_1_Elsev zF s_1.Else,box s_1b [.int .i64 s_1.Kind,.int .i64 s_1.At,.string (bs s_1.Name),.int .i64 s_1.X.Op,.int .i64 s_1.X.At,.string (bs s_1.X.S),s_1_X_Argsv,s_1_Bodyv,s_1_Elsev]] (fun v G=>∃ v0 v1 v2 v3,v = .tuple #[]∧G=[ro v0 3 (r.1.l_.map zo.enc),box r_0b [v0,.int .i64 r.1.i_,.int .i64 r.1.at_],nrow v1 zL r.2.X.Args,nrow v2 zF r.2.Body,nrow v3 zF r.2.Else,box s_1b [.int .i64 r.2.Kind,.int .i64 r.2.At,.string (bs r.2.Name),.int .i64 r.2.X.Op,.int .i64 r.2.X.At,.string (bs r.2.X.S),v1,v2,v3]])):=⟨Tryz.call219,by
 intros; rename_i h; unfold z3U at h
 exact dfn .e Tryz.func219 Tryz.ntmps219 Tryz.results219 h⟩
end Go.Proofs.YtgjcniomhahgkaaGreatDoor
namespace Go.Proofs.YtgjcniomhahgkaaGreatDoor
open Go.Abs
set_option maxRecDepth 20000
set_option maxHeartbeats 2000000
instance weirgate_parser_reader_stmt_179_k {rec_weirgate_parser_reader_block_138:z8→Option ((List zB)×z8)} [Con Tryz.prog 138 9 (∀ {r_0:z8} {r_0b:Nat} {r_0_l_v:Value} {r:(List zB)×z8},rec_weirgate_parser_reader_block_138 r_0=some r→Meets Tryz.prog 138 [boxP r_0b 0] [ro r_0_l_v 3 (r_0.l_.map zo.enc),box r_0b [r_0_l_v,.int .i64 r_0.i_,.int .i64 r_0.at_]] (fun v G=>∃ v0 v1,v=v0∧G=[nrow v0 zF r.1,ro v1 3 (r.2.l_.map zo.enc),box r_0b [v1,.int .i64 r.2.i_,.int .i64 r.2.at_]]))]:Con Tryz.prog 179 0 (∀ {n:Nat} {r_0:z8} {r_0b:Nat} {r_0_l_v:Value} {r:zB×z8},z3J n rec_weirgate_parser_reader_block_138 r_0=some r→Meets Tryz.prog 179 [boxP r_0b 0] [ro r_0_l_v 3 (r_0.l_.map zo.enc),box r_0b [r_0_l_v,.int .i64 r_0.i_,.int .i64 r_0.at_]] (fun v G=>∃ v0 v1 v2 v3,v = .agg #[.int .i64 r.1.Kind,.int .i64 r.1.At,.string (bs r.1.Name),.int .i64 r.1.X.Op,.int .i64 r.1.X.At,.string (bs r.1.X.S),v0,v1,v2]∧G=[nrow v0 zL r.1.X.Args,nrow v1 zF r.1.Body,nrow v2 zF r.1.Else,ro v3 3 (r.2.l_.map zo.enc),box r_0b [v3,.int .i64 r.2.i_,.int .i64 r.2.at_]])):=⟨Tryz.call179,by
 intros; rename_i h; unfold z3J at h
 exact dfn .e Tryz.func179 Tryz.ntmps179 Tryz.results179 h⟩
end Go.Proofs.YtgjcniomhahgkaaGreatDoor
