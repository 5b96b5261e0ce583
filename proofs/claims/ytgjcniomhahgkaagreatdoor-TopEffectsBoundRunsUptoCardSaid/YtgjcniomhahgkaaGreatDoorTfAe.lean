/-
  The walks: ref20_RightExpr, ref20_Size, slices_ContainsFunc_weirgate_api_PProgram_weirgate_api_PProgram_143, slices_Contains_string_string_243, slices_IndexFunc_weirgate_api_Lexeme_weirgate_api_Lexeme_173, weirgate_effect_costs_plus_147.
-/
import Derived.Test.YtgjcniomhahgkaaGreatDoorM11
import Derived.Test.YtgjcniomhahgkaaGreatDoorM9
import Derived.Test.YtgjcniomhahgkaaGreatDoorTfAa
import Derived.Test.YtgjcniomhahgkaaGreatDoorM14
set_option linter.unusedSimpArgs false
set_option linter.unusedVariables false
namespace Go.Proofs.YtgjcniomhahgkaaGreatDoor
open Go.Abs
set_option maxRecDepth 20000
set_option maxHeartbeats 2000000
theorem z8Z {n:Nat} {rec_ref20_Size:(List z7)→Int→Option (Int)} [Con Tryz.prog 4 9 (∀ {l_0:(List z7)} {most_1:Int} {l_0v:Value} {r:Int},rec_ref20_Size l_0 most_1=some r→Meets Tryz.prog 4 [l_0v,.int .i64 most_1] [nro l_0v zx l_0] (fun v G=>v = .int .i64 r∧G=[]))]:∀ {l_0:(List z7)} {most_1:Int} {l_0v:Value} {r:Int},z4g n rec_ref20_Size l_0 most_1=some r→Meets Tryz.prog 4 [l_0v,.int .i64 most_1] [nro l_0v zx l_0] (fun v G=>v = .int .i64 r∧G=[]):=by
 intros; rename_i h; unfold z4g at h
 exact dfn (.j 0 [] [(5,.t 0)] [] (.l 0 [0,1] [(5,.t 1),(6,.t 2)] [.k 0] (.c (.d [0,1,2,3,4,5,6,7,10,11,12,13,14,15,18,19,20,21,22,23,8,9,16,17,24,25,26] [] [.t,.t,.t,.t,.t,.t,.t,.t,.t,.t,.t,.t,.t,.t,.t,.t,.t,.t,.t,.t,.f,.t,.f,.t,.f,.t,.t] [] .e) .e)) .e) Tryz.func4 Tryz.ntmps4 Tryz.results4 h
theorem zbl {n:Nat}:∀ {l_0:(List z7)} {most_1:Int} {l_0v:Value} {r:Int},z4M n  l_0 most_1=some r→Meets Tryz.prog 4 [l_0v,.int .i64 most_1] [nro l_0v zx l_0] (fun v G=>v = .int .i64 r∧G=[]):=by
 induction n with
 | zero=>intros; rename_i h; cases h
 | succ n ih=>exact @z8Z n _ ⟨Tryz.call4,ih⟩
instance ref20_Size_k:Con Tryz.prog 4 0 (∀ {n:Nat} {l_0:(List z7)} {most_1:Int} {l_0v:Value} {r:Int},z4M n l_0 most_1=some r→Meets Tryz.prog 4 [l_0v,.int .i64 most_1] [nro l_0v zx l_0] (fun v G=>v = .int .i64 r∧G=[])):=⟨Tryz.call4,zbl⟩
theorem z7G {n:Nat} {rec_ref20_RightExpr:zm→(List Int)→Int→Option (Bool)} [Con Tryz.prog 43 9 (∀ {x_0:zm} {vars_1:(List Int)} {deep_2:Int} {x_0_Argsv:Value} {vars_1v:Value} {r:Bool},rec_ref20_RightExpr x_0 vars_1 deep_2=some r→Meets Tryz.prog 43 [.agg #[.int .i64 x_0.Op,.int .i64 x_0.Type_,.int .i64 x_0.N,.int .i64 x_0.Slot,.string (bs x_0.S),x_0_Argsv],vars_1v,.int .i64 deep_2] [nro x_0_Argsv zE x_0.Args,ro vars_1v 1 (vars_1.map (eInt .i64))] (fun v G=>v = .bool r∧G=[]))]:∀ {x_0:zm} {vars_1:(List Int)} {deep_2:Int} {x_0_Argsv:Value} {vars_1v:Value} {r:Bool},z2Q n rec_ref20_RightExpr x_0 vars_1 deep_2=some r→Meets Tryz.prog 43 [.agg #[.int .i64 x_0.Op,.int .i64 x_0.Type_,.int .i64 x_0.N,.int .i64 x_0.Slot,.string (bs x_0.S),x_0_Argsv],vars_1v,.int .i64 deep_2] [nro x_0_Argsv zE x_0.Args,ro vars_1v 1 (vars_1.map (eInt .i64))] (fun v G=>v = .bool r∧G=[]):=by
 intros; rename_i h; unfold z2Q at h
 exact dfn (.c .e (.c .e (.c .e (.c .e (.j 1 [3] [(10,.g 0)] [.w 0 0,.k 2,.k 0] (.l 1 [1,2,3,8] [(10,.g 0),(11,.t 2)] [.w 1 0,.k 1,.k 2,.k 0] .e) .e))))) Tryz.func43 Tryz.ntmps43 Tryz.results43 h
theorem z8Y {n:Nat}:∀ {x_0:zm} {vars_1:(List Int)} {deep_2:Int} {x_0_Argsv:Value} {vars_1v:Value} {r:Bool},z2r n  x_0 vars_1 deep_2=some r→Meets Tryz.prog 43 [.agg #[.int .i64 x_0.Op,.int .i64 x_0.Type_,.int .i64 x_0.N,.int .i64 x_0.Slot,.string (bs x_0.S),x_0_Argsv],vars_1v,.int .i64 deep_2] [nro x_0_Argsv zE x_0.Args,ro vars_1v 1 (vars_1.map (eInt .i64))] (fun v G=>v = .bool r∧G=[]):=by
 induction n with
 | zero=>intros; rename_i h; cases h
 | succ n ih=>exact @z7G n _ ⟨Tryz.call43,ih⟩
instance ref20_RightExpr_k:Con Tryz.prog 43 0 (∀ {n:Nat} {x_0:zm} {vars_1:(List Int)} {deep_2:Int} {x_0_Argsv:Value} {vars_1v:Value} {r:Bool},z2r n x_0 vars_1 deep_2=some r→Meets Tryz.prog 43 [.agg #[.int .i64 x_0.Op,.int .i64 x_0.Type_,.int .i64 x_0.N,.int .i64 x_0.Slot,.string (bs x_0.S),x_0_Argsv],vars_1v,.int .i64 deep_2] [nro x_0_Argsv zE x_0.Args,ro vars_1v 1 (vars_1.map (eInt .i64))] (fun v G=>v = .bool r∧G=[])):=⟨Tryz.call43,z8Y⟩
instance slices_Contains_string_string_243_k:Con Tryz.prog 243 0 (∀ {n:Nat} {s_0:(List (List UInt8))} {v_1:(List UInt8)} {s_0v:Value} {r:Bool},z2l n s_0 v_1=some r→Meets Tryz.prog 243 [s_0v,.string (bs v_1)] [ro s_0v 1 (s_0.map eStr)] (fun v G=>v = .bool r∧G=[])):=⟨Tryz.call243,by
 intros; rename_i h; unfold z2l at h
 exact dfn .e Tryz.func243 Tryz.ntmps243 Tryz.results243 h⟩
instance slices_IndexFunc_weirgate_api_Lexeme_weirgate_api_Lexeme_173_k:Con Tryz.prog 173 0 (∀ {n:Nat} {s_0:(List zo)} {f_1_0:Int} {s_0v:Value} {f_1_0b:Nat} {r:Int×Int},z1p n s_0 f_1_0=some r→Meets Tryz.prog 173 [s_0v,.func (.func 174) #[] #[boxP f_1_0b 0]] [ro s_0v 3 (s_0.map zo.enc),box f_1_0b [.int .i64 f_1_0]] (fun v G=>v = .int .i64 r.1∧G=[box f_1_0b [.int .i64 r.2]])):=⟨Tryz.call173,by
 intros; rename_i h; unfold z1p at h
 exact dfn (.j 0 [] [] [.b 1 [.t 0]] (.l 0 [0,1,7] [(8,.t 1)] [.k 0,.b 1 [.t 2]] .e) .e) Tryz.func173 Tryz.ntmps173 Tryz.results173 h⟩
instance slices_ContainsFunc_weirgate_api_PProgram_weirgate_api_PProgram_143_k:Con Tryz.prog 143 0 (∀ {n:Nat} {s_0:(List z1d)} {f_1_0:z1d} {s_0v:Value} {f_1_0b:Nat} {f_1_0_Effectsv:Value} {f_1_0_Codev:Value} {r:Bool},z1f n s_0 f_1_0=some r→Meets Tryz.prog 143 [s_0v,.func (.func 144) #[] #[boxP f_1_0b 0]] [nro s_0v z23 s_0,ro f_1_0_Effectsv 1 (f_1_0.Effects.map (eInt .i64)),nro f_1_0_Codev zF f_1_0.Code,box f_1_0b [.string (bs f_1_0.Name),.int .i64 f_1_0.At,f_1_0_Effectsv,f_1_0_Codev]] (fun v G=>v = .bool r∧G=[box f_1_0b [.string (bs f_1_0.Name),.int .i64 f_1_0.At,f_1_0_Effectsv,f_1_0_Codev]])):=⟨Tryz.call143,by
 intros; rename_i h; unfold z1f at h
 exact dfn .e Tryz.func143 Tryz.ntmps143 Tryz.results143 h⟩
instance weirgate_effect_costs_plus_147_k:Con Tryz.prog 147 0 (∀ {a_0:zD} {b_1:zD} {r:zD},z1M a_0 b_1=some r→Meets Tryz.prog 147 [.agg #[.bool a_0.is_,.int .i64 a_0.lo_,.int .i64 a_0.hi_],.agg #[.bool b_1.is_,.int .i64 b_1.lo_,.int .i64 b_1.hi_]] [] (fun v G=>v = .agg #[.bool r.is_,.int .i64 r.lo_,.int .i64 r.hi_]∧G=[])):=⟨Tryz.call147,by
 intros; rename_i h; unfold z1M at h
 exact dfn (.c .e (.d [0,1,2,3,4,6,7,8,9,10,5,11,12,13] [2] [.t,.t,.t,.t,.t,.t,.t,.t,.t,.t,.f,.f,.t,.f] [] .e)) Tryz.func147 Tryz.ntmps147 Tryz.results147 h⟩
end Go.Proofs.YtgjcniomhahgkaaGreatDoor
