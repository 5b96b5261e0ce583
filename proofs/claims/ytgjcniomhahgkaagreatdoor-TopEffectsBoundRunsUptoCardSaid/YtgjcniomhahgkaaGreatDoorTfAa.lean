/-
  The walks: lexer_Words, lexer_fail, lexer_forms, lexer_forms_1_205, lexer_forms_2_207, lexer_isDigit, lexer_isRest, lexer_isSmall, parser_deep_1_174, parser_effectWords, parser_signs, weirgate_lexer_reader_space_1_210, weirgate_lexer_reader_while_209, weirgate_lexer_reader_while_209_v2, weirgate_parser_reader_.
-/
import Derived.Test.YtgjcniomhahgkaaGreatDoorM11
set_option linter.unusedSimpArgs false
set_option linter.unusedVariables false
namespace Go.Proofs.YtgjcniomhahgkaaGreatDoor
open Go.Abs
set_option maxRecDepth 20000
set_option maxHeartbeats 2000000
instance lexer_forms_k:Con Tryz.prog 171 0 (∀ {r:Unit},z8W=some r→Meets Tryz.prog 171 [] [globA] (fun v G=>∃ v0,v=v0∧G=[row v0 2 [[.func (.func 201) #[] #[],.func (.func 202) #[] #[]],[.func (.func 203) #[] #[],.func (.func 204) #[] #[]],[.func (.func 205) #[] #[],.func (.func 206) #[] #[]],[.func (.func 207) #[] #[],.func (.func 208) #[] #[]]]])):=⟨Tryz.call171,by
 intros; rename_i h; unfold z8W at h
 exact dfn .e Tryz.func171 Tryz.ntmps171 Tryz.results171 h⟩
instance weirgate_lexer_reader_space_1_210_k:Con Tryz.prog 210 0 (∀ {b_0:Int} {r:Bool},z3m b_0=some r→Meets Tryz.prog 210 [.int .u8 b_0] [] (fun v G=>v = .bool r∧G=[])):=⟨Tryz.call210,by
 intros; rename_i h; unfold z3m at h
 exact dfn .e Tryz.func210 Tryz.ntmps210 Tryz.results210 h⟩
instance lexer_isSmall_k:Con Tryz.prog 201 0 (∀ {b_0:Int} {r:Bool},z6X b_0=some r→Meets Tryz.prog 201 [.int .u8 b_0] [] (fun v G=>v = .bool r∧G=[])):=⟨Tryz.call201,by
 intros; rename_i h; unfold z6X at h
 exact dfn .e Tryz.func201 Tryz.ntmps201 Tryz.results201 h⟩
instance lexer_isDigit_k:Con Tryz.prog 203 0 (∀ {b_0:Int} {r:Bool},z6k b_0=some r→Meets Tryz.prog 203 [.int .u8 b_0] [] (fun v G=>v = .bool r∧G=[])):=⟨Tryz.call203,by
 intros; rename_i h; unfold z6k at h
 exact dfn .e Tryz.func203 Tryz.ntmps203 Tryz.results203 h⟩
instance lexer_Words_k:Con Tryz.prog 258 0 (∀ {r:(List (List UInt8))},z8V=some r→Meets Tryz.prog 258 [] [globA] (fun v G=>∃ v0,v=v0∧G=[row v0 1 (r.map eStr)])):=⟨Tryz.call258,by
 intros; rename_i h; unfold z8V at h
 exact dfn .e Tryz.func258 Tryz.ntmps258 Tryz.results258 h⟩
instance lexer_fail_k:Con Tryz.prog 241 0 (∀ {ok_0:Bool} {e_1:Int} {r:Unit},z6M ok_0 e_1=some r→Meets Tryz.prog 241 [.bool ok_0,.int .i64 e_1] [] (fun v G=>v = .tuple #[]∧G=[])):=⟨Tryz.call241,by
 intros; rename_i h; unfold z6M at h
 exact dfn .e Tryz.func241 Tryz.ntmps241 Tryz.results241 h⟩
instance lexer_forms_1_205_k:Con Tryz.prog 205 0 (∀ {b_0:Int} {r:Bool},z6r b_0=some r→Meets Tryz.prog 205 [.int .u8 b_0] [] (fun v G=>v = .bool r∧G=[])):=⟨Tryz.call205,by
 intros; rename_i h; unfold z6r at h
 exact dfn .e Tryz.func205 Tryz.ntmps205 Tryz.results205 h⟩
instance lexer_forms_2_207_k:Con Tryz.prog 207 0 (∀ {a_0:Int} {r:Bool},z6s a_0=some r→Meets Tryz.prog 207 [.int .u8 a_0] [] (fun v G=>v = .bool r∧G=[])):=⟨Tryz.call207,by
 intros; rename_i h; unfold z6s at h
 exact dfn .e Tryz.func207 Tryz.ntmps207 Tryz.results207 h⟩
instance parser_deep_1_174_k:Con Tryz.prog 174 0 (∀ {t_0:zo} {a_1:Int} {a_1b:Nat} {r:Bool×Int},z6u t_0 a_1=some r→Meets Tryz.prog 174 [.agg #[.int .i64 t_0.Kind,.int .i64 t_0.At,.string (bs t_0.S)],boxP a_1b 0] [box a_1b [.int .i64 a_1]] (fun v G=>v = .bool r.1∧G=[box a_1b [.int .i64 r.2]])):=⟨Tryz.call174,by
 intros; rename_i h; unfold z6u at h
 exact dfn (.c .e (.j 0 [] [] [.b 0 [.t 0]] .e .e)) Tryz.func174 Tryz.ntmps174 Tryz.results174 h⟩
instance weirgate_parser_reader_next_131_k:Con Tryz.prog 131 0 (∀ {r_0:z8} {r_0b:Nat} {r_0_l_v:Value} {r:zo},zO r_0=some r→Meets Tryz.prog 131 [boxP r_0b 0] [ro r_0_l_v 3 (r_0.l_.map zo.enc),box r_0b [r_0_l_v,.int .i64 r_0.i_,.int .i64 r_0.at_]] (fun v G=>v = .agg #[.int .i64 r.Kind,.int .i64 r.At,.string (bs r.S)]∧G=[box r_0b [r_0_l_v,.int .i64 r_0.i_,.int .i64 r_0.at_]])):=⟨Tryz.call131,by
 intros; rename_i h; unfold zO at h
 exact dfn (.c (.d [0,1,2,3,4,5,6,7,8,9,10] [2] [.t,.t,.t,.t,.t,.t,.t,.t,.t,.t,.f] [] .e) .e) Tryz.func131 Tryz.ntmps131 Tryz.results131 h⟩
instance parser_effectWords_k:Con Tryz.prog 178 0 (∀ {r:(List (List UInt8))},z67=some r→Meets Tryz.prog 178 [] [] (fun v G=>∃ v0,v=v0∧G=[row v0 1 (r.map eStr)])):=⟨Tryz.call178,by
 intros; rename_i h; unfold z67 at h
 exact dfn .e Tryz.func178 Tryz.ntmps178 Tryz.results178 h⟩
instance parser_signs_k:Con Tryz.prog 289 0 (∀ {r:(List ((List UInt8)×Int))},z8o=some r→Meets Tryz.prog 289 [] [] (fun v G=>∃ v0,v = .map (some v0)∧G=[mapis v0 (mcells (fun l:List UInt8=>Value.string (bs l)) (fun n:Int=>Value.int .i64 n) r)])):=⟨Tryz.call289,by
 intros; rename_i h; unfold z8o at h
 exact dfn .e Tryz.func289 Tryz.ntmps289 Tryz.results289 h⟩
instance weirgate_lexer_reader_while_209_k:Con Tryz.prog 209 0 (∀ {n:Nat} {r_0:zC} {r_0b:Nat} {r:(List UInt8)×zC},z3F n r_0=some r→Meets Tryz.prog 209 [boxP r_0b 0,.func (.func 210) #[] #[]] [box r_0b [.string (bs r_0.s_),.int .i64 r_0.at_]] (fun v G=>v = .string (bs r.1)∧G=[box r_0b [.string (bs r.2.s_),.int .i64 r.2.at_]])):=⟨Tryz.call209,by
 intros; rename_i h; unfold z3F at h
 exact dfn (.j 0 [0,5] [] [.b 0 [.k,.t 0]] (.l 0 [0,1,5] [] [.b 0 [.k,.t 0]] (.d [0,1,2,3,4,5,6,7,8,9,10,11,12,13,14,15,16,17,18,19,20,21,22] [] [.t,.t,.t,.t,.t,.t,.t,.t,.t,.t,.t,.t,.t,.t,.t,.t,.t,.t,.t,.t,.t,.f,.t] [] .e)) .e) Tryz.func209 Tryz.ntmps209 Tryz.results209 h⟩
instance lexer_isRest_k:Con Tryz.prog 239 0 (∀ {b_0:Int} {r:Bool},z7q b_0=some r→Meets Tryz.prog 239 [.int .u8 b_0] [] (fun v G=>v = .bool r∧G=[])):=⟨Tryz.call239,by
 intros; rename_i h; unfold z7q at h
 exact dfn .e Tryz.func239 Tryz.ntmps239 Tryz.results239 h⟩
instance weirgate_lexer_reader_while_209_v2_k:Con Tryz.prog 209 2 (∀ {n:Nat} {r_0:zC} {r_0b:Nat} {r:(List UInt8)×zC},z3g n r_0=some r→Meets Tryz.prog 209 [boxP r_0b 0,.func (.func 203) #[] #[]] [box r_0b [.string (bs r_0.s_),.int .i64 r_0.at_]] (fun v G=>v = .string (bs r.1)∧G=[box r_0b [.string (bs r.2.s_),.int .i64 r.2.at_]])):=⟨Tryz.call209,by
 intros; rename_i h; unfold z3g at h
 exact dfn (.j 0 [0,5] [] [.b 0 [.k,.t 0]] (.l 0 [0,1,5] [] [.b 0 [.k,.t 0]] (.d [0,1,2,3,4,5,6,7,8,9,10,11,12,13,14,15,16,17,18,19,20,21,22] [] [.t,.t,.t,.t,.t,.t,.t,.t,.t,.t,.t,.t,.t,.t,.t,.t,.t,.t,.t,.t,.t,.f,.t] [] .e)) .e) Tryz.func209 Tryz.ntmps209 Tryz.results209 h⟩
end Go.Proofs.YtgjcniomhahgkaaGreatDoor
