/-
  The walks: parser_deep, parser_list_int_136, weirgate_lexer_reader_name_202, weirgate_lexer_reader_sign_208, weirgate_parser_reader_must_134, weirgate_parser_reader_prefix_290_v1, weirgate_parser_reader_repeat_221, weirgate_parser_reader_skip_132.
-/
import Derived.Test.YtgjcniomhahgkaaGreatDoorM11
import Derived.Test.YtgjcniomhahgkaaGreatDoorM9
import Derived.Test.YtgjcniomhahgkaaGreatDoorTfAf
set_option linter.unusedSimpArgs false
set_option linter.unusedVariables false
namespace Go.Proofs.YtgjcniomhahgkaaGreatDoor
open Go.Abs
set_option maxRecDepth 20000
set_option maxHeartbeats 2000000
instance weirgate_lexer_reader_sign_208_k:Con Tryz.prog 208 0 (∀ {n:Nat} {r_0:zC} {r_0b:Nat} {r:zo×zC},z3O n r_0=some r→Meets Tryz.prog 208 [boxP r_0b 0] [box r_0b [.string (bs r_0.s_),.int .i64 r_0.at_],globA] (fun v G=>v = .agg #[.int .i64 r.1.Kind,.int .i64 r.1.At,.string (bs r.1.S)]∧G=[box r_0b [.string (bs r.2.s_),.int .i64 r.2.at_]])):=⟨Tryz.call208,by
 intros; rename_i h; unfold z3O at h
 exact dfn .e Tryz.func208 Tryz.ntmps208 Tryz.results208 h⟩
instance parser_deep_k:Con Tryz.prog 128 0 (∀ {n:Nat} {l_0:(List zo)} {l_0v:Value} {r:Int},z8X n l_0=some r→Meets Tryz.prog 128 [l_0v] [ro l_0v 3 (l_0.map zo.enc)] (fun v G=>v = .int .i64 r∧G=[])):=⟨Tryz.call128,by
 intros; rename_i h; unfold z8X at h
 exact dfn .e Tryz.func128 Tryz.ntmps128 Tryz.results128 h⟩
instance weirgate_parser_reader_skip_132_k:Con Tryz.prog 132 0 (∀ {r_0:z8} {kind_1:Int} {s_2:(List UInt8)} {r_0b:Nat} {r_0_l_v:Value} {r:Bool×z8},zT r_0 kind_1 s_2=some r→Meets Tryz.prog 132 [boxP r_0b 0,.int .i64 kind_1,.string (bs s_2)] [ro r_0_l_v 3 (r_0.l_.map zo.enc),box r_0b [r_0_l_v,.int .i64 r_0.i_,.int .i64 r_0.at_]] (fun v G=>∃ v0,v = .bool r.1∧G=[ro v0 3 (r.2.l_.map zo.enc),box r_0b [v0,.int .i64 r.2.i_,.int .i64 r.2.at_]])):=⟨Tryz.call132,by
 intros; rename_i h; unfold zT at h
 exact dfn (.j 0 [7] [] [.b 2 [.k,.t 0],.k 0] .e .e) Tryz.func132 Tryz.ntmps132 Tryz.results132 h⟩
instance weirgate_parser_reader_repeat_221_k {rec_weirgate_parser_reader_block_138:z8→Option ((List zB)×z8)} [Con Tryz.prog 138 9 (∀ {r_0:z8} {r_0b:Nat} {r_0_l_v:Value} {r:(List zB)×z8},rec_weirgate_parser_reader_block_138 r_0=some r→Meets Tryz.prog 138 [boxP r_0b 0] [ro r_0_l_v 3 (r_0.l_.map zo.enc),box r_0b [r_0_l_v,.int .i64 r_0.i_,.int .i64 r_0.at_]] (fun v G=>∃ v0 v1,v=v0∧G=[nrow v0 zF r.1,ro v1 3 (r.2.l_.map zo.enc),box r_0b [v1,.int .i64 r.2.i_,.int .i64 r.2.at_]]))]:Con Tryz.prog 221 0 (∀ {r_0:z8} {s_1:zB} {r_0b:Nat} {r_0_l_v:Value} {s_1b:Nat} {s_1_X_Argsv:Value} {s_1_Bodyv:Value} {s_1_Elsev:Value} {r:z8×zB},z3p rec_weirgate_parser_reader_block_138 r_0 s_1=some r→Meets Tryz.prog 221 [boxP r_0b 0,boxP s_1b 0] [ro r_0_l_v 3 (r_0.l_.map zo.enc),box r_0b [r_0_l_v,.int .i64 r_0.i_,.int .i64 r_0.at_],nrow s_1_X_Argsv zL s_1.X.Args,nrow s_1_Bodyv zF s_1.Body,nrow s_1_Elsev zF s_1.Else,box s_1b [.int .i64 s_1.Kind,.int .i64 s_1.At,.string (bs s_1.Name),.int .i64 s_1.X.Op,.int .i64 s_1.X.At,.string (bs s_1.X.S),s_1_X_Argsv,s_1_Bodyv,s_1_Elsev]] (fun v G=>∃ v0 v1 v2 v3,v = .tuple #[]∧G=[ro v0 3 (r.1.l_.map zo.enc),box r_0b [v0,.int .i64 r.1.i_,.int .i64 r.1.at_],nrow v1 zL r.2.X.Args,nrow v2 zF r.2.Body,nrow v3 zF r.2.Else,box s_1b [.int .i64 r.2.Kind,.int .i64 r.2.At,.string (bs r.2.Name),.int .i64 r.2.X.Op,.int .i64 r.2.X.At,.string (bs r.2.X.S),v1,v2,v3]])):=⟨Tryz.call221,by
 intros; rename_i h; unfold z3p at h
 exact dfn .e Tryz.func221 Tryz.ntmps221 Tryz.results221 h⟩
instance weirgate_lexer_reader_name_202_k:Con Tryz.prog 202 0 (∀ {n:Nat} {r_0:zC} {r_0b:Nat} {r:zo×zC},z3N n r_0=some r→Meets Tryz.prog 202 [boxP r_0b 0] [box r_0b [.string (bs r_0.s_),.int .i64 r_0.at_],globA] (fun v G=>v = .agg #[.int .i64 r.1.Kind,.int .i64 r.1.At,.string (bs r.1.S)]∧G=[box r_0b [.string (bs r.2.s_),.int .i64 r.2.at_]])):=⟨Tryz.call202,by
 intros; rename_i h; unfold z3N at h
 exact dfn .e Tryz.func202 Tryz.ntmps202 Tryz.results202 h⟩
instance parser_list_int_136_k:Con Tryz.prog 136 0 (∀ {n:Nat} {r_0:z8} {r_0b:Nat} {r_0_l_v:Value} {r:(List Int)×z8},z5J n r_0=some r→Meets Tryz.prog 136 [boxP r_0b 0,.func (.func 137) #[boxP r_0b 0] #[]] [ro r_0_l_v 3 (r_0.l_.map zo.enc),box r_0b [r_0_l_v,.int .i64 r_0.i_,.int .i64 r_0.at_]] (fun v G=>∃ v0 v1,v=v0∧G=[row v0 1 (r.1.map (eInt .i64)),ro v1 3 (r.2.l_.map zo.enc),box r_0b [v1,.int .i64 r.2.i_,.int .i64 r.2.at_]])):=⟨Tryz.call136,by
 intros; rename_i h; unfold z5J at h
 exact dfn (.j 2 [] [(5,.g 1)] [.w 1 1,.b 3 [.g 2,.t 5,.t 6],.o 3 2] (.l 2 [0,1] [(5,.g 1)] [.w 1 1,.b 3 [.g 2,.t 5,.t 6],.o 3 2] .e) .e) Tryz.func136 Tryz.ntmps136 Tryz.results136 h⟩
instance weirgate_parser_reader_must_134_k:Con Tryz.prog 134 0 (∀ {r_0:z8} {kind_1:Int} {s_2:(List UInt8)} {r_0b:Nat} {r_0_l_v:Value} {r:z8},z26 r_0 kind_1 s_2=some r→Meets Tryz.prog 134 [boxP r_0b 0,.int .i64 kind_1,.string (bs s_2)] [ro r_0_l_v 3 (r_0.l_.map zo.enc),box r_0b [r_0_l_v,.int .i64 r_0.i_,.int .i64 r_0.at_]] (fun v G=>∃ v0,v = .tuple #[]∧G=[ro v0 3 (r.l_.map zo.enc),box r_0b [v0,.int .i64 r.i_,.int .i64 r.at_]])):=⟨Tryz.call134,by
 intros; rename_i h; unfold z26 at h
 exact dfn .e Tryz.func134 Tryz.ntmps134 Tryz.results134 h⟩
instance weirgate_parser_reader_prefix_290_v1_k:Con Tryz.prog 290 0 (∀ {r_0:z8} {op_1:Int} {kind_2:Int} {s_3:(List UInt8)} {r_0b:Nat} {r_0_l_v:Value} {r:zK×z8},z2R r_0 op_1 kind_2 s_3=some r→Meets Tryz.prog 290 [boxP r_0b 0,.int .i64 op_1,.int .i64 kind_2,.string (bs s_3),.func (.func 321) #[boxP r_0b 0] #[],.func (.func 323) #[boxP r_0b 0] #[]] [ro r_0_l_v 3 (r_0.l_.map zo.enc),box r_0b [r_0_l_v,.int .i64 r_0.i_,.int .i64 r_0.at_]] (fun v G=>∃ v0 v1,v = .agg #[.int .i64 r.1.Op,.int .i64 r.1.At,.string (bs r.1.S),v0]∧G=[nrow v0 zL r.1.Args,ro v1 3 (r.2.l_.map zo.enc),box r_0b [v1,.int .i64 r.2.i_,.int .i64 r.2.at_]])):=⟨Tryz.call290,by
 intros; rename_i h; unfold z2R at h
 exact dfn .e Tryz.func290 Tryz.ntmps290 Tryz.results290 h⟩
end Go.Proofs.YtgjcniomhahgkaaGreatDoor
