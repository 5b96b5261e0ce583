/-
  The walks: lexer_Word, weirgate_lexer_reader_number_204, weirgate_lexer_reader_space_172, weirgate_lexer_reader_text_206, weirgate_lexer_reader_while_209_v1, weirgate_parser_reader_atom_323, weirgate_parser_reader_effect_137, weirgate_parser_reader_is_175, weirgate_parser_reader_operator_281, weirgate_parser_r.
-/
import Derived.Test.YtgjcniomhahgkaaGreatDoorM11
import Derived.Test.YtgjcniomhahgkaaGreatDoorM9
import Derived.Test.YtgjcniomhahgkaaGreatDoorTfAe
set_option linter.unusedSimpArgs false
set_option linter.unusedVariables false
namespace Go.Proofs.YtgjcniomhahgkaaGreatDoor
open Go.Abs
set_option maxRecDepth 20000
set_option maxHeartbeats 2000000
instance weirgate_lexer_reader_text_206_k:Con Tryz.prog 206 0 (∀ {n:Nat} {r_0:zC} {r_0b:Nat} {r:zo×zC},z3P n r_0=some r→Meets Tryz.prog 206 [boxP r_0b 0] [box r_0b [.string (bs r_0.s_),.int .i64 r_0.at_]] (fun v G=>v = .agg #[.int .i64 r.1.Kind,.int .i64 r.1.At,.string (bs r.1.S)]∧G=[box r_0b [.string (bs r.2.s_),.int .i64 r.2.at_]])):=⟨Tryz.call206,by
 intros; rename_i h; unfold z3P at h
 exact dfn (.j 1 [0,2] [(3,.g 0)] [.w 1 0,.b 0 [.k,.t 2],.k 1] (.l 1 [0,2] [(3,.g 0)] [.w 1 0,.b 0 [.k,.t 2],.k 1] .e) (.d [0,1,2,3,4,5,6,7,8,9,10,11,12,13,14,15] [] [.t,.t,.t,.t,.t,.t,.t,.t,.t,.t,.t,.t,.t,.t,.t,.f] [] .e)) Tryz.func206 Tryz.ntmps206 Tryz.results206 h⟩
instance weirgate_parser_reader_is_175_k:Con Tryz.prog 175 0 (∀ {r_0:z8} {kind_1:Int} {s_2:(List UInt8)} {r_0b:Nat} {r_0_l_v:Value} {r:Bool},z42 r_0 kind_1 s_2=some r→Meets Tryz.prog 175 [boxP r_0b 0,.int .i64 kind_1,.string (bs s_2)] [ro r_0_l_v 3 (r_0.l_.map zo.enc),box r_0b [r_0_l_v,.int .i64 r_0.i_,.int .i64 r_0.at_]] (fun v G=>v = .bool r∧G=[box r_0b [r_0_l_v,.int .i64 r_0.i_,.int .i64 r_0.at_]])):=⟨Tryz.call175,by
 intros; rename_i h; unfold z42 at h
 exact dfn .e Tryz.func175 Tryz.ntmps175 Tryz.results175 h⟩
instance weirgate_parser_reader_take_133_k:Con Tryz.prog 133 0 (∀ {r_0:z8} {kind_1:Int} {r_0b:Nat} {r_0_l_v:Value} {r:(List UInt8)×z8},z27 r_0 kind_1=some r→Meets Tryz.prog 133 [boxP r_0b 0,.int .i64 kind_1] [ro r_0_l_v 3 (r_0.l_.map zo.enc),box r_0b [r_0_l_v,.int .i64 r_0.i_,.int .i64 r_0.at_]] (fun v G=>∃ v0,v = .string (bs r.1)∧G=[ro v0 3 (r.2.l_.map zo.enc),box r_0b [v0,.int .i64 r.2.i_,.int .i64 r.2.at_]])):=⟨Tryz.call133,by
 intros; rename_i h; unfold z27 at h
 exact dfn .e Tryz.func133 Tryz.ntmps133 Tryz.results133 h⟩
instance weirgate_parser_reader_effect_137_k:Con Tryz.prog 137 0 (∀ {n:Nat} {r_0:z8} {r_0b:Nat} {r_0_l_v:Value} {r:Int×z8},z2o n r_0=some r→Meets Tryz.prog 137 [boxP r_0b 0] [ro r_0_l_v 3 (r_0.l_.map zo.enc),box r_0b [r_0_l_v,.int .i64 r_0.i_,.int .i64 r_0.at_]] (fun v G=>∃ v0,v = .int .i64 r.1∧G=[ro v0 3 (r.2.l_.map zo.enc),box r_0b [v0,.int .i64 r.2.i_,.int .i64 r.2.at_]])):=⟨Tryz.call137,by
 intros; rename_i h; unfold z2o at h
 exact dfn (.d [1,2,0,3,4,5] [] [.t,.t,.f,.f,.t,.t] [] .e) Tryz.func137 Tryz.ntmps137 Tryz.results137 h⟩
instance weirgate_parser_reader_atom_323_k:Con Tryz.prog 323 0 (∀ {r_0:z8} {r_0b:Nat} {r_0_l_v:Value} {r:zK×z8},z3G r_0=some r→Meets Tryz.prog 323 [boxP r_0b 0] [ro r_0_l_v 3 (r_0.l_.map zo.enc),box r_0b [r_0_l_v,.int .i64 r_0.i_,.int .i64 r_0.at_]] (fun v G=>∃ v0 v1,v = .agg #[.int .i64 r.1.Op,.int .i64 r.1.At,.string (bs r.1.S),v0]∧G=[nrow v0 zL r.1.Args,ro v1 3 (r.2.l_.map zo.enc),box r_0b [v1,.int .i64 r.2.i_,.int .i64 r.2.at_]])):=⟨Tryz.call323,by
 intros; rename_i h; unfold z3G at h
 exact dfn (.j 0 [0,2,4] [] [.k 3,.k 0,.k 2,.b 5 [.t 0]] .e .e) Tryz.func323 Tryz.ntmps323 Tryz.results323 h⟩
instance weirgate_parser_reader_operator_281_k:Con Tryz.prog 281 0 (∀ {r_0:z8} {from_1:Int} {to_2:Int} {r_0b:Nat} {r_0_l_v:Value} {r:Int},z1i r_0 from_1 to_2=some r→Meets Tryz.prog 281 [boxP r_0b 0,.int .i64 from_1,.int .i64 to_2] [ro r_0_l_v 3 (r_0.l_.map zo.enc),box r_0b [r_0_l_v,.int .i64 r_0.i_,.int .i64 r_0.at_]] (fun v G=>v = .int .i64 r∧G=[box r_0b [r_0_l_v,.int .i64 r_0.i_,.int .i64 r_0.at_]])):=⟨Tryz.call281,by
 intros; rename_i h; unfold z1i at h
 exact dfn (.c .e (.d [1,2,0,3,4] [] [.t,.t,.f,.f,.t] [] .e)) Tryz.func281 Tryz.ntmps281 Tryz.results281 h⟩
instance weirgate_lexer_reader_space_172_k:Con Tryz.prog 172 0 (∀ {n:Nat} {r_0:zC} {r_0b:Nat} {r:zC},z2B n r_0=some r→Meets Tryz.prog 172 [boxP r_0b 0] [box r_0b [.string (bs r_0.s_),.int .i64 r_0.at_]] (fun v G=>v = .tuple #[]∧G=[box r_0b [.string (bs r.s_),.int .i64 r.at_]])):=⟨Tryz.call172,by
 intros; rename_i h; unfold z2B at h
 exact dfn (.l 0 [0] [] [.k 0] .e) Tryz.func172 Tryz.ntmps172 Tryz.results172 h⟩
instance weirgate_lexer_reader_while_209_v1_k:Con Tryz.prog 209 1 (∀ {n:Nat} {r_0:zC} {r_0b:Nat} {r:(List UInt8)×zC},z3f n r_0=some r→Meets Tryz.prog 209 [boxP r_0b 0,.func (.func 239) #[] #[]] [box r_0b [.string (bs r_0.s_),.int .i64 r_0.at_]] (fun v G=>v = .string (bs r.1)∧G=[box r_0b [.string (bs r.2.s_),.int .i64 r.2.at_]])):=⟨Tryz.call209,by
 intros; rename_i h; unfold z3f at h
 exact dfn (.j 0 [0,5] [] [.b 0 [.k,.t 0]] (.l 0 [0,1,5] [] [.b 0 [.k,.t 0]] (.d [0,1,2,3,4,5,6,7,8,9,10,11,12,13,14,15,16,17,18,19,20,21,22] [] [.t,.t,.t,.t,.t,.t,.t,.t,.t,.t,.t,.t,.t,.t,.t,.t,.t,.t,.t,.t,.t,.f,.t] [] .e)) .e) Tryz.func209 Tryz.ntmps209 Tryz.results209 h⟩
instance lexer_Word_k:Con Tryz.prog 240 0 (∀ {n:Nat} {s_0:(List UInt8)} {r:Bool},z9H n s_0=some r→Meets Tryz.prog 240 [.string (bs s_0)] [globA] (fun v G=>v = .bool r∧G=[])):=⟨Tryz.call240,by
 intros; rename_i h; unfold z9H at h
 exact dfn .e Tryz.func240 Tryz.ntmps240 Tryz.results240 h⟩
instance weirgate_lexer_reader_number_204_k:Con Tryz.prog 204 0 (∀ {n:Nat} {r_0:zC} {r_0b:Nat} {r:zo×zC},z3u n r_0=some r→Meets Tryz.prog 204 [boxP r_0b 0] [box r_0b [.string (bs r_0.s_),.int .i64 r_0.at_]] (fun v G=>v = .agg #[.int .i64 r.1.Kind,.int .i64 r.1.At,.string (bs r.1.S)]∧G=[box r_0b [.string (bs r.2.s_),.int .i64 r.2.at_]])):=⟨Tryz.call204,by
 intros; rename_i h; unfold z3u at h
 exact dfn .e Tryz.func204 Tryz.ntmps204 Tryz.results204 h⟩
end Go.Proofs.YtgjcniomhahgkaaGreatDoor
