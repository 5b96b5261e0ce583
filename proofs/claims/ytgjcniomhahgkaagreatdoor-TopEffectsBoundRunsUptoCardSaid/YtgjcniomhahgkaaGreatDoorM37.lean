/-
  Texts that stand side by side: TfAh, TfAi, TfAj.
-/
import Derived.Test.YtgjcniomhahgkaaGreatDoorM11
import Derived.Test.YtgjcniomhahgkaaGreatDoorM9
import Derived.Test.YtgjcniomhahgkaaGreatDoorTfAg
set_option linter.unusedSimpArgs false
set_option linter.unusedVariables false
namespace Go.Proofs.YtgjcniomhahgkaaGreatDoor
open Go.Abs
set_option maxRecDepth 20000
set_option maxHeartbeats 2000000
instance lexer_Tokens_k:Con Tryz.prog 127 0 (∀ {n:Nat} {s_0:(List UInt8)} {r:(List zo)×z13},z8j n s_0=some r→Meets Tryz.prog 127 [.string (bs s_0)] [globA] (fun v G=>∃ v0,v = .tuple #[v0,.agg #[.int .i64 r.2.At,.int .i64 r.2.E]]∧G=[row v0 3 (r.1.map zo.enc)])):=⟨Tryz.call127,by
 intros; rename_i h; unfold z8j at h
 exact dfq (.c .e (.j 1 [2,3] [] [.b 1 [.g 0],.w 0 0,.k 2,.k 0] (.l 1 [0,2,3,4,5,6] [] [.b 1 [.g 0],.w 1 0,.k 2,.b 6 [.t 3,.t 5],.b 4 [.t 6],.k 5,.k 0] (.c (.j 1 [0,2,3,4,5,6] [] [.b 0 [.g 0],.w 1 0,.k 2,.b 3 [.t 3,.t 5],.b 4 [.t 6],.k 5,.k 6] (.d [0,1,2,3,4,5] [] [.t,.t,.t,.t,.t,.f] [] (.c .e (.d [0,1,2,3,4,5] [] [.t,.t,.t,.t,.t,.f] [] (.c .e (.d [0,1,2,3,4,5] [] [.t,.t,.t,.t,.t,.f] [] (.c .e (.d [0,1,2,3,4,5] [] [.t,.t,.t,.t,.t,.f] [] .e))))))) .e) .e)) .e)) Tryz.func127 Tryz.ntmps127 Tryz.results127 h⟩
instance weirgate_parser_reader_minus_321_k:Con Tryz.prog 321 0 (∀ {r_0:z8} {r_0b:Nat} {r_0_l_v:Value} {r:zK×z8},z3w r_0=some r→Meets Tryz.prog 321 [boxP r_0b 0] [ro r_0_l_v 3 (r_0.l_.map zo.enc),box r_0b [r_0_l_v,.int .i64 r_0.i_,.int .i64 r_0.at_]] (fun v G=>∃ v0 v1,v = .agg #[.int .i64 r.1.Op,.int .i64 r.1.At,.string (bs r.1.S),v0]∧G=[nrow v0 zL r.1.Args,ro v1 3 (r.2.l_.map zo.enc),box r_0b [v1,.int .i64 r.2.i_,.int .i64 r.2.at_]])):=⟨Tryz.call321,by
 intros; rename_i h; unfold z3w at h
 exact dfn .e Tryz.func321 Tryz.ntmps321 Tryz.results321 h⟩
instance weirgate_parser_reader_chain_262_v3_k:Con Tryz.prog 262 0 (∀ {n:Nat} {r_0:z8} {from_1:Int} {to_2:Int} {r_0b:Nat} {r_0_l_v:Value} {r:zK×z8},z33 n r_0 from_1 to_2=some r→Meets Tryz.prog 262 [boxP r_0b 0,.int .i64 from_1,.int .i64 to_2,.func (.func 321) #[boxP r_0b 0] #[]] [ro r_0_l_v 3 (r_0.l_.map zo.enc),box r_0b [r_0_l_v,.int .i64 r_0.i_,.int .i64 r_0.at_]] (fun v G=>∃ v0 v1,v = .agg #[.int .i64 r.1.Op,.int .i64 r.1.At,.string (bs r.1.S),v0]∧G=[nrow v0 zL r.1.Args,ro v1 3 (r.2.l_.map zo.enc),box r_0b [v1,.int .i64 r.2.i_,.int .i64 r.2.at_]])):=⟨Tryz.call262,by
 intros; rename_i h; unfold z33 at h
 exact dfn (.l 0 [0,1,2,3,8,9] [] [.k 5,.k 4,.k 2,.k 6,.k 3] .e) Tryz.func262 Tryz.ntmps262 Tryz.results262 h⟩
instance weirgate_parser_reader_product_316_k:Con Tryz.prog 316 0 (∀ {n:Nat} {r_0:z8} {r_0b:Nat} {r_0_l_v:Value} {r:zK×z8},z3i n r_0=some r→Meets Tryz.prog 316 [boxP r_0b 0] [ro r_0_l_v 3 (r_0.l_.map zo.enc),box r_0b [r_0_l_v,.int .i64 r_0.i_,.int .i64 r_0.at_]] (fun v G=>∃ v0 v1,v = .agg #[.int .i64 r.1.Op,.int .i64 r.1.At,.string (bs r.1.S),v0]∧G=[nrow v0 zL r.1.Args,ro v1 3 (r.2.l_.map zo.enc),box r_0b [v1,.int .i64 r.2.i_,.int .i64 r.2.at_]])):=⟨Tryz.call316,by
 intros; rename_i h; unfold z3i at h
 exact dfn .e Tryz.func316 Tryz.ntmps316 Tryz.results316 h⟩
instance weirgate_parser_reader_chain_262_v2_k:Con Tryz.prog 262 1 (∀ {n:Nat} {r_0:z8} {from_1:Int} {to_2:Int} {r_0b:Nat} {r_0_l_v:Value} {r:zK×z8},z32 n r_0 from_1 to_2=some r→Meets Tryz.prog 262 [boxP r_0b 0,.int .i64 from_1,.int .i64 to_2,.func (.func 316) #[boxP r_0b 0] #[]] [ro r_0_l_v 3 (r_0.l_.map zo.enc),box r_0b [r_0_l_v,.int .i64 r_0.i_,.int .i64 r_0.at_]] (fun v G=>∃ v0 v1,v = .agg #[.int .i64 r.1.Op,.int .i64 r.1.At,.string (bs r.1.S),v0]∧G=[nrow v0 zL r.1.Args,ro v1 3 (r.2.l_.map zo.enc),box r_0b [v1,.int .i64 r.2.i_,.int .i64 r.2.at_]])):=⟨Tryz.call262,by
 intros; rename_i h; unfold z32 at h
 exact dfn (.l 0 [0,1,2,3,8,9] [] [.k 5,.k 4,.k 2,.k 6,.k 3] .e) Tryz.func262 Tryz.ntmps262 Tryz.results262 h⟩
instance weirgate_parser_reader_sum_306_k:Con Tryz.prog 306 0 (∀ {n:Nat} {r_0:z8} {r_0b:Nat} {r_0_l_v:Value} {r:zK×z8},z2L n r_0=some r→Meets Tryz.prog 306 [boxP r_0b 0] [ro r_0_l_v 3 (r_0.l_.map zo.enc),box r_0b [r_0_l_v,.int .i64 r_0.i_,.int .i64 r_0.at_]] (fun v G=>∃ v0 v1,v = .agg #[.int .i64 r.1.Op,.int .i64 r.1.At,.string (bs r.1.S),v0]∧G=[nrow v0 zL r.1.Args,ro v1 3 (r.2.l_.map zo.enc),box r_0b [v1,.int .i64 r.2.i_,.int .i64 r.2.at_]])):=⟨Tryz.call306,by
 intros; rename_i h; unfold z2L at h
 exact dfn .e Tryz.func306 Tryz.ntmps306 Tryz.results306 h⟩
instance weirgate_parser_reader_less_291_k:Con Tryz.prog 291 0 (∀ {n:Nat} {r_0:z8} {r_0b:Nat} {r_0_l_v:Value} {r:zK×z8},z3I n r_0=some r→Meets Tryz.prog 291 [boxP r_0b 0] [ro r_0_l_v 3 (r_0.l_.map zo.enc),box r_0b [r_0_l_v,.int .i64 r_0.i_,.int .i64 r_0.at_]] (fun v G=>∃ v0 v1,v = .agg #[.int .i64 r.1.Op,.int .i64 r.1.At,.string (bs r.1.S),v0]∧G=[nrow v0 zL r.1.Args,ro v1 3 (r.2.l_.map zo.enc),box r_0b [v1,.int .i64 r.2.i_,.int .i64 r.2.at_]])):=⟨Tryz.call291,by
 intros; rename_i h; unfold z3I at h
 exact dfn (.c (.d [0,1,2,3,4,5,6,7] [2,3,8] [.t,.t,.t,.t,.f,.f,.f,.f] [] .e) .e) Tryz.func291 Tryz.ntmps291 Tryz.results291 h⟩
instance weirgate_parser_reader_prefix_290_k:Con Tryz.prog 290 1 (∀ {n:Nat} {r_0:z8} {op_1:Int} {kind_2:Int} {s_3:(List UInt8)} {r_0b:Nat} {r_0_l_v:Value} {r:zK×z8},z3o n r_0 op_1 kind_2 s_3=some r→Meets Tryz.prog 290 [boxP r_0b 0,.int .i64 op_1,.int .i64 kind_2,.string (bs s_3),.func (.func 282) #[boxP r_0b 0] #[],.func (.func 291) #[boxP r_0b 0] #[]] [ro r_0_l_v 3 (r_0.l_.map zo.enc),box r_0b [r_0_l_v,.int .i64 r_0.i_,.int .i64 r_0.at_]] (fun v G=>∃ v0 v1,v = .agg #[.int .i64 r.1.Op,.int .i64 r.1.At,.string (bs r.1.S),v0]∧G=[nrow v0 zL r.1.Args,ro v1 3 (r.2.l_.map zo.enc),box r_0b [v1,.int .i64 r.2.i_,.int .i64 r.2.at_]])):=⟨Tryz.call290,by
 intros; rename_i h; unfold z3o at h
 exact dfn .e Tryz.func290 Tryz.ntmps290 Tryz.results290 h⟩
end Go.Proofs.YtgjcniomhahgkaaGreatDoor
namespace Go.Proofs.YtgjcniomhahgkaaGreatDoor
open Go.Abs
set_option maxRecDepth 20000
set_option maxHeartbeats 2000000
instance weirgate_parser_reader_not_282_k:Con Tryz.prog 282 0 (∀ {n:Nat} {r_0:z8} {r_0b:Nat} {r_0_l_v:Value} {r:zK×z8},z3T n r_0=some r→Meets Tryz.prog 282 [boxP r_0b 0] [ro r_0_l_v 3 (r_0.l_.map zo.enc),box r_0b [r_0_l_v,.int .i64 r_0.i_,.int .i64 r_0.at_]] (fun v G=>∃ v0 v1,v = .agg #[.int .i64 r.1.Op,.int .i64 r.1.At,.string (bs r.1.S),v0]∧G=[nrow v0 zL r.1.Args,ro v1 3 (r.2.l_.map zo.enc),box r_0b [v1,.int .i64 r.2.i_,.int .i64 r.2.at_]])):=⟨Tryz.call282,by
 intros; rename_i h; unfold z3T at h
 exact dfn .e Tryz.func282 Tryz.ntmps282 Tryz.results282 h⟩
instance weirgate_parser_reader_chain_262_v1_k:Con Tryz.prog 262 2 (∀ {n:Nat} {r_0:z8} {from_1:Int} {to_2:Int} {r_0b:Nat} {r_0_l_v:Value} {r:zK×z8},z30 n r_0 from_1 to_2=some r→Meets Tryz.prog 262 [boxP r_0b 0,.int .i64 from_1,.int .i64 to_2,.func (.func 282) #[boxP r_0b 0] #[]] [ro r_0_l_v 3 (r_0.l_.map zo.enc),box r_0b [r_0_l_v,.int .i64 r_0.i_,.int .i64 r_0.at_]] (fun v G=>∃ v0 v1,v = .agg #[.int .i64 r.1.Op,.int .i64 r.1.At,.string (bs r.1.S),v0]∧G=[nrow v0 zL r.1.Args,ro v1 3 (r.2.l_.map zo.enc),box r_0b [v1,.int .i64 r.2.i_,.int .i64 r.2.at_]])):=⟨Tryz.call262,by
 intros; rename_i h; unfold z30 at h
 exact dfn (.l 0 [0,1,2,3,8,9] [] [.k 5,.k 4,.k 2,.k 6,.k 3] .e) Tryz.func262 Tryz.ntmps262 Tryz.results262 h⟩
instance weirgate_parser_reader_and_263_k:Con Tryz.prog 263 0 (∀ {n:Nat} {r_0:z8} {r_0b:Nat} {r_0_l_v:Value} {r:zK×z8},z3Q n r_0=some r→Meets Tryz.prog 263 [boxP r_0b 0] [ro r_0_l_v 3 (r_0.l_.map zo.enc),box r_0b [r_0_l_v,.int .i64 r_0.i_,.int .i64 r_0.at_]] (fun v G=>∃ v0 v1,v = .agg #[.int .i64 r.1.Op,.int .i64 r.1.At,.string (bs r.1.S),v0]∧G=[nrow v0 zL r.1.Args,ro v1 3 (r.2.l_.map zo.enc),box r_0b [v1,.int .i64 r.2.i_,.int .i64 r.2.at_]])):=⟨Tryz.call263,by
 intros; rename_i h; unfold z3Q at h
 exact dfn .e Tryz.func263 Tryz.ntmps263 Tryz.results263 h⟩
instance weirgate_parser_reader_chain_262_k:Con Tryz.prog 262 3 (∀ {n:Nat} {r_0:z8} {from_1:Int} {to_2:Int} {r_0b:Nat} {r_0_l_v:Value} {r:zK×z8},z3v n r_0 from_1 to_2=some r→Meets Tryz.prog 262 [boxP r_0b 0,.int .i64 from_1,.int .i64 to_2,.func (.func 263) #[boxP r_0b 0] #[]] [ro r_0_l_v 3 (r_0.l_.map zo.enc),box r_0b [r_0_l_v,.int .i64 r_0.i_,.int .i64 r_0.at_]] (fun v G=>∃ v0 v1,v = .agg #[.int .i64 r.1.Op,.int .i64 r.1.At,.string (bs r.1.S),v0]∧G=[nrow v0 zL r.1.Args,ro v1 3 (r.2.l_.map zo.enc),box r_0b [v1,.int .i64 r.2.i_,.int .i64 r.2.at_]])):=⟨Tryz.call262,by
 intros; rename_i h; unfold z3v at h
 exact dfn (.l 0 [0,1,2,3,8,9] [] [.k 5,.k 4,.k 2,.k 6,.k 3] .e) Tryz.func262 Tryz.ntmps262 Tryz.results262 h⟩
instance weirgate_parser_reader_expr_246_k:Con Tryz.prog 246 0 (∀ {n:Nat} {r_0:z8} {r_0b:Nat} {r_0_l_v:Value} {r:zK×z8},z2C n r_0=some r→Meets Tryz.prog 246 [boxP r_0b 0] [ro r_0_l_v 3 (r_0.l_.map zo.enc),box r_0b [r_0_l_v,.int .i64 r_0.i_,.int .i64 r_0.at_]] (fun v G=>∃ v0 v1,v = .agg #[.int .i64 r.1.Op,.int .i64 r.1.At,.string (bs r.1.S),v0]∧G=[nrow v0 zL r.1.Args,ro v1 3 (r.2.l_.map zo.enc),box r_0b [v1,.int .i64 r.2.i_,.int .i64 r.2.at_]])):=⟨Tryz.call246,by
 intros; rename_i h; unfold z2C at h
 exact dfn .e Tryz.func246 Tryz.ntmps246 Tryz.results246 h⟩
instance weirgate_parser_reader_ended_247_k:Con Tryz.prog 247 0 (∀ {n:Nat} {r_0:z8} {r_0b:Nat} {r_0_l_v:Value} {r:zK×z8},z1D n r_0=some r→Meets Tryz.prog 247 [boxP r_0b 0] [ro r_0_l_v 3 (r_0.l_.map zo.enc),box r_0b [r_0_l_v,.int .i64 r_0.i_,.int .i64 r_0.at_]] (fun v G=>∃ v0 v1,v = .agg #[.int .i64 r.1.Op,.int .i64 r.1.At,.string (bs r.1.S),v0]∧G=[nrow v0 zL r.1.Args,ro v1 3 (r.2.l_.map zo.enc),box r_0b [v1,.int .i64 r.2.i_,.int .i64 r.2.at_]])):=⟨Tryz.call247,by
 intros; rename_i h; unfold z1D at h
 exact dfn .e Tryz.func247 Tryz.ntmps247 Tryz.results247 h⟩
instance weirgate_parser_reader_branch_220_k {rec_weirgate_parser_reader_block_138:z8→Option ((List zB)×z8)} [Con Tryz.prog 138 9 (∀ {r_0:z8} {r_0b:Nat} {r_0_l_v:Value} {r:(List zB)×z8},rec_weirgate_parser_reader_block_138 r_0=some r→Meets Tryz.prog 138 [boxP r_0b 0] [ro r_0_l_v 3 (r_0.l_.map zo.enc),box r_0b [r_0_l_v,.int .i64 r_0.i_,.int .i64 r_0.at_]] (fun v G=>∃ v0 v1,v=v0∧G=[nrow v0 zF r.1,ro v1 3 (r.2.l_.map zo.enc),box r_0b [v1,.int .i64 r.2.i_,.int .i64 r.2.at_]]))]:Con Tryz.prog 220 0 (∀ {n:Nat} {r_0:z8} {s_1:zB} {r_0b:Nat} {r_0_l_v:Value} {s_1b:Nat} {s_1_X_Argsv:Value} {s_1_Bodyv:Value} {s_1_Elsev:Value} {r:z8×zB},z3n n rec_weirgate_parser_reader_block_138 r_0 s_1=some r→Meets Tryz.prog 220 [boxP r_0b 0,boxP s_1b 0] [ro r_0_l_v 3 (r_0.l_.map zo.enc),box r_0b [r_0_l_v,.int .i64 r_0.i_,.int .i64 r_0.at_],nrow s_1_X_Argsv zL s_1.X.Args,nrow s_1_Bodyv zF s_1.Body,nrow s_1_Elsev zF s_1.Else,box s_1b [.int .i64 s_1.Kind,.int .i64 s_1.At,.string (bs s_1.Name),.int .i64 s_1.X.Op,.int .i64 s_1.X.At,.string (bs s_1.X.S),s_1_X_Argsv,s_1_Bodyv,s_1_Elsev]] (fun v G=>∃ v0 v1 v2 v3,v = .tuple #[]∧G=[ro v0 3 (r.1.l_.map zo.enc),box r_0b [v0,.int .i64 r.1.i_,.int .i64 r.1.at_],nrow v1 zL r.2.X.Args,nrow v2 zF r.2.Body,nrow v3 zF r.2.Else,box s_1b [.int .i64 r.2.Kind,.int .i64 r.2.At,.string (bs r.2.Name),.int .i64 r.2.X.Op,.int .i64 r.2.X.At,.string (bs r.2.X.S),v1,v2,v3]])):=⟨Tryz.call220,by
 intros; rename_i h; unfold z3n at h
 exact dfn .e Tryz.func220 Tryz.ntmps220 Tryz.results220 h⟩
end Go.Proofs.YtgjcniomhahgkaaGreatDoor
namespace Go.Proofs.YtgjcniomhahgkaaGreatDoor
open Go.Abs
set_option maxRecDepth 20000
set_option maxHeartbeats 2000000
instance weirgate_parser_reader_equals_245_k:Con Tryz.prog 245 0 (∀ {n:Nat} {r_0:z8} {r_0b:Nat} {r_0_l_v:Value} {r:zK×z8},z2p n r_0=some r→Meets Tryz.prog 245 [boxP r_0b 0] [ro r_0_l_v 3 (r_0.l_.map zo.enc),box r_0b [r_0_l_v,.int .i64 r_0.i_,.int .i64 r_0.at_]] (fun v G=>∃ v0 v1,v = .agg #[.int .i64 r.1.Op,.int .i64 r.1.At,.string (bs r.1.S),v0]∧G=[nrow v0 zL r.1.Args,ro v1 3 (r.2.l_.map zo.enc),box r_0b [v1,.int .i64 r.2.i_,.int .i64 r.2.at_]])):=⟨Tryz.call245,by
 intros; rename_i h; unfold z2p at h
 exact dfn .e Tryz.func245 Tryz.ntmps245 Tryz.results245 h⟩
instance weirgate_parser_reader_log_222_k:Con Tryz.prog 222 0 (∀ {n:Nat} {r_0:z8} {s_1:zB} {r_0b:Nat} {r_0_l_v:Value} {s_1b:Nat} {s_1_X_Argsv:Value} {s_1_Bodyv:Value} {s_1_Elsev:Value} {r:z8×zB},z3S n r_0 s_1=some r→Meets Tryz.prog 222 [boxP r_0b 0,boxP s_1b 0] [ro r_0_l_v 3 (r_0.l_.map zo.enc),box r_0b [r_0_l_v,.int .i64 r_0.i_,.int .i64 r_0.at_],nrow s_1_X_Argsv zL s_1.X.Args,nrow s_1_Bodyv zF s_1.Body,nrow s_1_Elsev zF s_1.Else,box s_1b [.int .i64 s_1.Kind,.int .i64 s_1.At,.string (bs s_1.Name),.int .i64 s_1.X.Op,.int .i64 s_1.X.At,.string (bs s_1.X.S),s_1_X_Argsv,s_1_Bodyv,s_1_Elsev]] (fun v G=>∃ v0 v1 v2 v3,v = .tuple #[]∧G=[ro v0 3 (r.1.l_.map zo.enc),box r_0b [v0,.int .i64 r.1.i_,.int .i64 r.1.at_],nrow v1 zL r.2.X.Args,nrow v2 zF r.2.Body,nrow v3 zF r.2.Else,box s_1b [.int .i64 r.2.Kind,.int .i64 r.2.At,.string (bs r.2.Name),.int .i64 r.2.X.Op,.int .i64 r.2.X.At,.string (bs r.2.X.S),v1,v2,v3]])):=⟨Tryz.call222,by
 intros; rename_i h; unfold z3S at h
 exact dfn .e Tryz.func222 Tryz.ntmps222 Tryz.results222 h⟩
instance weirgate_parser_reader_deny_223_k:Con Tryz.prog 223 0 (∀ {n:Nat} {r_0:z8} {s_1:zB} {r_0b:Nat} {r_0_l_v:Value} {s_1b:Nat} {s_1_X_Argsv:Value} {s_1_Bodyv:Value} {s_1_Elsev:Value} {r:z8×zB},z3H n r_0 s_1=some r→Meets Tryz.prog 223 [boxP r_0b 0,boxP s_1b 0] [ro r_0_l_v 3 (r_0.l_.map zo.enc),box r_0b [r_0_l_v,.int .i64 r_0.i_,.int .i64 r_0.at_],nrow s_1_X_Argsv zL s_1.X.Args,nrow s_1_Bodyv zF s_1.Body,nrow s_1_Elsev zF s_1.Else,box s_1b [.int .i64 s_1.Kind,.int .i64 s_1.At,.string (bs s_1.Name),.int .i64 s_1.X.Op,.int .i64 s_1.X.At,.string (bs s_1.X.S),s_1_X_Argsv,s_1_Bodyv,s_1_Elsev]] (fun v G=>∃ v0 v1 v2 v3,v = .tuple #[]∧G=[ro v0 3 (r.1.l_.map zo.enc),box r_0b [v0,.int .i64 r.1.i_,.int .i64 r.1.at_],nrow v1 zL r.2.X.Args,nrow v2 zF r.2.Body,nrow v3 zF r.2.Else,box s_1b [.int .i64 r.2.Kind,.int .i64 r.2.At,.string (bs r.2.Name),.int .i64 r.2.X.Op,.int .i64 r.2.X.At,.string (bs r.2.X.S),v1,v2,v3]])):=⟨Tryz.call223,by
 intros; rename_i h; unfold z3H at h
 exact dfn .e Tryz.func223 Tryz.ntmps223 Tryz.results223 h⟩
instance weirgate_parser_reader_reply_224_k:Con Tryz.prog 224 0 (∀ {n:Nat} {r_0:z8} {s_1:zB} {r_0b:Nat} {r_0_l_v:Value} {s_1b:Nat} {s_1_X_Argsv:Value} {s_1_Bodyv:Value} {s_1_Elsev:Value} {r:z8×zB},z3x n r_0 s_1=some r→Meets Tryz.prog 224 [boxP r_0b 0,boxP s_1b 0] [ro r_0_l_v 3 (r_0.l_.map zo.enc),box r_0b [r_0_l_v,.int .i64 r_0.i_,.int .i64 r_0.at_],nrow s_1_X_Argsv zL s_1.X.Args,nrow s_1_Bodyv zF s_1.Body,nrow s_1_Elsev zF s_1.Else,box s_1b [.int .i64 s_1.Kind,.int .i64 s_1.At,.string (bs s_1.Name),.int .i64 s_1.X.Op,.int .i64 s_1.X.At,.string (bs s_1.X.S),s_1_X_Argsv,s_1_Bodyv,s_1_Elsev]] (fun v G=>∃ v0 v1 v2 v3,v = .tuple #[]∧G=[ro v0 3 (r.1.l_.map zo.enc),box r_0b [v0,.int .i64 r.1.i_,.int .i64 r.1.at_],nrow v1 zL r.2.X.Args,nrow v2 zF r.2.Body,nrow v3 zF r.2.Else,box s_1b [.int .i64 r.2.Kind,.int .i64 r.2.At,.string (bs r.2.Name),.int .i64 r.2.X.Op,.int .i64 r.2.X.At,.string (bs r.2.X.S),v1,v2,v3]])):=⟨Tryz.call224,by
 intros; rename_i h; unfold z3x at h
 exact dfn .e Tryz.func224 Tryz.ntmps224 Tryz.results224 h⟩
instance weirgate_parser_reader_let_218_k:Con Tryz.prog 218 0 (∀ {n:Nat} {r_0:z8} {s_1:zB} {r_0b:Nat} {r_0_l_v:Value} {s_1b:Nat} {s_1_X_Argsv:Value} {s_1_Bodyv:Value} {s_1_Elsev:Value} {r:z8×zB},z3R n r_0 s_1=some r→Meets Tryz.prog 218 [boxP r_0b 0,boxP s_1b 0] [ro r_0_l_v 3 (r_0.l_.map zo.enc),box r_0b [r_0_l_v,.int .i64 r_0.i_,.int .i64 r_0.at_],nrow s_1_X_Argsv zL s_1.X.Args,nrow s_1_Bodyv zF s_1.Body,nrow s_1_Elsev zF s_1.Else,box s_1b [.int .i64 s_1.Kind,.int .i64 s_1.At,.string (bs s_1.Name),.int .i64 s_1.X.Op,.int .i64 s_1.X.At,.string (bs s_1.X.S),s_1_X_Argsv,s_1_Bodyv,s_1_Elsev]] (fun v G=>∃ v0 v1 v2 v3,v = .tuple #[]∧G=[ro v0 3 (r.1.l_.map zo.enc),box r_0b [v0,.int .i64 r.1.i_,.int .i64 r.1.at_],nrow v1 zL r.2.X.Args,nrow v2 zF r.2.Body,nrow v3 zF r.2.Else,box s_1b [.int .i64 r.2.Kind,.int .i64 r.2.At,.string (bs r.2.Name),.int .i64 r.2.X.Op,.int .i64 r.2.X.At,.string (bs r.2.X.S),v1,v2,v3]])):=⟨Tryz.call218,by
 intros; rename_i h; unfold z3R at h
 exact dfn .e Tryz.func218 Tryz.ntmps218 Tryz.results218 h⟩
end Go.Proofs.YtgjcniomhahgkaaGreatDoor
