/-
  The walks: ref20_RightEdge, ref20_SizeExpr, ref20_Wants, ref20_leaf, ref20_result, ref20_zero, slices_Clone_int_int_73, slices_Compact_int_int_232, slices_IndexFunc_weirgate_api_PProgram_weirgate_api_PProgram_184, slices_Index_string_string_177.
-/
import Derived.Test.YtgjcniomhahgkaaGreatDoorM11
set_option linter.unusedSimpArgs false
set_option linter.unusedVariables false
namespace Go.Proofs.YtgjcniomhahgkaaGreatDoor
open Go.Abs
set_option maxRecDepth 20000
set_option maxHeartbeats 2000000
theorem z7O {n:Nat} {rec_ref20_SizeExpr:zm→Int→Option (Int)} [Con Tryz.prog 19 9 (∀ {x_0:zm} {most_1:Int} {x_0_Argsv:Value} {r:Int},rec_ref20_SizeExpr x_0 most_1=some r→Meets Tryz.prog 19 [.agg #[.int .i64 x_0.Op,.int .i64 x_0.Type_,.int .i64 x_0.N,.int .i64 x_0.Slot,.string (bs x_0.S),x_0_Argsv],.int .i64 most_1] [nro x_0_Argsv zE x_0.Args] (fun v G=>v = .int .i64 r∧G=[]))]:∀ {x_0:zm} {most_1:Int} {x_0_Argsv:Value} {r:Int},z3a n rec_ref20_SizeExpr x_0 most_1=some r→Meets Tryz.prog 19 [.agg #[.int .i64 x_0.Op,.int .i64 x_0.Type_,.int .i64 x_0.N,.int .i64 x_0.Slot,.string (bs x_0.S),x_0_Argsv],.int .i64 most_1] [nro x_0_Argsv zE x_0.Args] (fun v G=>v = .int .i64 r∧G=[]):=by
 intros; rename_i h; unfold z3a at h
 exact dfn (.j 0 [] [(5,.t 0)] [] (.l 0 [1,2] [(5,.t 1),(6,.t 2)] [.k 1,.k 0] .e) .e) Tryz.func19 Tryz.ntmps19 Tryz.results19 h
theorem z9g {n:Nat}:∀ {x_0:zm} {most_1:Int} {x_0_Argsv:Value} {r:Int},z3A n  x_0 most_1=some r→Meets Tryz.prog 19 [.agg #[.int .i64 x_0.Op,.int .i64 x_0.Type_,.int .i64 x_0.N,.int .i64 x_0.Slot,.string (bs x_0.S),x_0_Argsv],.int .i64 most_1] [nro x_0_Argsv zE x_0.Args] (fun v G=>v = .int .i64 r∧G=[]):=by
 induction n with
 | zero=>intros; rename_i h; cases h
 | succ n ih=>exact @z7O n _ ⟨Tryz.call19,ih⟩
instance ref20_SizeExpr_k:Con Tryz.prog 19 0 (∀ {n:Nat} {x_0:zm} {most_1:Int} {x_0_Argsv:Value} {r:Int},z3A n x_0 most_1=some r→Meets Tryz.prog 19 [.agg #[.int .i64 x_0.Op,.int .i64 x_0.Type_,.int .i64 x_0.N,.int .i64 x_0.Slot,.string (bs x_0.S),x_0_Argsv],.int .i64 most_1] [nro x_0_Argsv zE x_0.Args] (fun v G=>v = .int .i64 r∧G=[])):=⟨Tryz.call19,z9g⟩
instance ref20_zero_k:Con Tryz.prog 42 0 (∀ {x_0:zm} {x_0_Argsv:Value} {r:Bool},z6P x_0=some r→Meets Tryz.prog 42 [.agg #[.int .i64 x_0.Op,.int .i64 x_0.Type_,.int .i64 x_0.N,.int .i64 x_0.Slot,.string (bs x_0.S),x_0_Argsv]] [nro x_0_Argsv zE x_0.Args] (fun v G=>v = .bool r∧G=[])):=⟨Tryz.call42,by
 intros; rename_i h; unfold z6P at h
 exact dfn .e Tryz.func42 Tryz.ntmps42 Tryz.results42 h⟩
instance ref20_leaf_k:Con Tryz.prog 96 0 (∀ {x_0:zm} {vars_1:(List Int)} {x_0_Argsv:Value} {vars_1v:Value} {r:Int},z6O x_0 vars_1=some r→Meets Tryz.prog 96 [.agg #[.int .i64 x_0.Op,.int .i64 x_0.Type_,.int .i64 x_0.N,.int .i64 x_0.Slot,.string (bs x_0.S),x_0_Argsv],vars_1v] [nro x_0_Argsv zE x_0.Args,ro vars_1v 1 (vars_1.map (eInt .i64))] (fun v G=>v = .int .i64 r∧G=[])):=⟨Tryz.call96,by
 intros; rename_i h; unfold z6O at h
 exact dfn .e Tryz.func96 Tryz.ntmps96 Tryz.results96 h⟩
instance ref20_result_k:Con Tryz.prog 97 0 (∀ {n:Nat} {op_0:Int} {l_1:(List Int)} {l_1v:Value} {r:Int},z5r n op_0 l_1=some r→Meets Tryz.prog 97 [.int .i64 op_0,l_1v] [ro l_1v 1 (l_1.map (eInt .i64))] (fun v G=>v = .int .i64 r∧G=[])):=⟨Tryz.call97,by
 intros; rename_i h; unfold z5r at h
 exact dfn (.j 0 [0,1] [] [.k 0] (.l 0 [0,1] [(5,.t 0)] [.k 0] .e) .e) Tryz.func97 Tryz.ntmps97 Tryz.results97 h⟩
instance ref20_Wants_k:Con Tryz.prog 44 0 (∀ {kind_0:Int} {r:Int},z69 kind_0=some r→Meets Tryz.prog 44 [.int .i64 kind_0] [] (fun v G=>v = .int .i64 r∧G=[])):=⟨Tryz.call44,by
 intros; rename_i h; unfold z69 at h
 exact dfn .e Tryz.func44 Tryz.ntmps44 Tryz.results44 h⟩
instance ref20_RightEdge_k:Con Tryz.prog 6 0 (∀ {n:Nat} {e_0:zP} {e_0_Headersv:Value} {r:Bool},z5g n e_0=some r→Meets Tryz.prog 6 [.agg #[e_0_Headersv,.int .i64 e_0.Status]] [ro e_0_Headersv 2 (e_0.Headers.map zp.enc)] (fun v G=>v = .bool r∧G=[])):=⟨Tryz.call6,by
 intros; rename_i h; unfold z5g at h
 exact dfn (.j 0 [1] [] [.k 1,.k 0] (.l 0 [1] [(3,.t 0)] [.k 1,.k 0] .e) .e) Tryz.func6 Tryz.ntmps6 Tryz.results6 h⟩
instance slices_Index_string_string_177_k:Con Tryz.prog 177 0 (∀ {n:Nat} {s_0:(List (List UInt8))} {v_1:(List UInt8)} {s_0v:Value} {r:Int},z2K n s_0 v_1=some r→Meets Tryz.prog 177 [s_0v,.string (bs v_1)] [ro s_0v 1 (s_0.map eStr)] (fun v G=>v = .int .i64 r∧G=[])):=⟨Tryz.call177,by
 intros; rename_i h; unfold z2K at h
 exact dfn (.j 0 [] [] [] (.l 0 [0,1,7] [(8,.t 0)] [.k 0] .e) .e) Tryz.func177 Tryz.ntmps177 Tryz.results177 h⟩
instance slices_IndexFunc_weirgate_api_PProgram_weirgate_api_PProgram_184_k:Con Tryz.prog 184 0 (∀ {n:Nat} {s_0:(List z1d)} {f_1_0:z1d} {s_0v:Value} {f_1_0b:Nat} {f_1_0_Effectsv:Value} {f_1_0_Codev:Value} {r:Int},z1j n s_0 f_1_0=some r→Meets Tryz.prog 184 [s_0v,.func (.func 144) #[] #[boxP f_1_0b 0]] [nro s_0v z23 s_0,ro f_1_0_Effectsv 1 (f_1_0.Effects.map (eInt .i64)),nro f_1_0_Codev zF f_1_0.Code,box f_1_0b [.string (bs f_1_0.Name),.int .i64 f_1_0.At,f_1_0_Effectsv,f_1_0_Codev]] (fun v G=>v = .int .i64 r∧G=[box f_1_0b [.string (bs f_1_0.Name),.int .i64 f_1_0.At,f_1_0_Effectsv,f_1_0_Codev]])):=⟨Tryz.call184,by
 intros; rename_i h; unfold z1j at h
 exact dfn (.j 0 [] [] [.k 3,.k 1,.k 2] (.l 0 [0,1,7,8] [] [.k 0,.k 3,.k 1,.k 2] .e) .e) Tryz.func184 Tryz.ntmps184 Tryz.results184 h⟩
instance slices_Clone_int_int_73_k:Con Tryz.prog 73 0 (∀ {s_0:(List Int)} {s_0v:Value} {r:(List Int)},z15 s_0=some r→Meets Tryz.prog 73 [s_0v] [ro s_0v 1 (s_0.map (eInt .i64))] (fun v G=>∃ v0,v=v0∧G=[row v0 1 (r.map (eInt .i64))])):=⟨Tryz.call73,by
 intros; rename_i h; unfold z15 at h
 exact dfn .e Tryz.func73 Tryz.ntmps73 Tryz.results73 h⟩
instance slices_Compact_int_int_232_k:Con Tryz.prog 232 0 (∀ {n:Nat} {s_0:(List Int)} {s_0v:Value} {r:(List Int)},z4h n s_0=some r→Meets Tryz.prog 232 [s_0v] [ro s_0v 1 (s_0.map (eInt .i64))] (fun v G=>∃ v0,v=v0∧G=[ro v0 1 (r.map (eInt .i64))])):=⟨Tryz.call232,by
 intros; rename_i h; unfold z4h at h
 exact dfn (.c .e (.j 0 [0] [] [.k 0] (.l 0 [0] [(3,.t 0)] [.k 0] .e) .e)) Tryz.func232 Tryz.ntmps232 Tryz.results232 h⟩
end Go.Proofs.YtgjcniomhahgkaaGreatDoor
