/-
  The walks: effect_Declared_1_49, effect_repeat, effect_statement, ref20_Right, slices_ContainsFunc_int_int_48_v2, slices_DeleteFunc_weirgate_api_Header_weirgate_api_Header_116_v2, slices_IndexFunc_int_int_103_v1, weirgate_effect_way_then_106.
-/
import Derived.Test.YtgjcniomhahgkaaGreatDoorM11
import Derived.Test.YtgjcniomhahgkaaGreatDoorM9
import Derived.Test.YtgjcniomhahgkaaGreatDoorTfAp
import Derived.Test.YtgjcniomhahgkaaGreatDoorTfBj
set_option linter.unusedSimpArgs false
set_option linter.unusedVariables false
namespace Go.Proofs.YtgjcniomhahgkaaGreatDoor
open Go.Abs
set_option maxRecDepth 20000
set_option maxHeartbeats 2000000
instance weirgate_effect_way_then_106_k:Con Tryz.prog 106 0 (∀ {a_0:zJ} {b_1:zJ} {r:zJ},z1k a_0 b_1=some r→Meets Tryz.prog 106 [.agg #[.bool a_0.on_.is_,.int .i64 a_0.on_.lo_,.int .i64 a_0.on_.hi_,.bool a_0.end_.is_,.int .i64 a_0.end_.lo_,.int .i64 a_0.end_.hi_],.agg #[.bool b_1.on_.is_,.int .i64 b_1.on_.lo_,.int .i64 b_1.on_.hi_,.bool b_1.end_.is_,.int .i64 b_1.end_.lo_,.int .i64 b_1.end_.hi_]] [] (fun v G=>v = .agg #[.bool r.on_.is_,.int .i64 r.on_.lo_,.int .i64 r.on_.hi_,.bool r.end_.is_,.int .i64 r.end_.lo_,.int .i64 r.end_.hi_]∧G=[])):=⟨Tryz.call106,by
 intros; rename_i h; unfold z1k at h
 exact dfn (.d [0,1,2,3,5,6,7,8,9,10,4,11,12,13,14] [2] [.t,.t,.t,.t,.t,.t,.t,.t,.t,.t,.f,.f,.f,.t,.f] [] .e) Tryz.func106 Tryz.ntmps106 Tryz.results106 h⟩
instance slices_DeleteFunc_weirgate_api_Header_weirgate_api_Header_116_v2_k:Con Tryz.prog 116 0 (∀ {n:Nat} {s_0:(List zp)} {del_1_0:z6} {s_0v:Value} {del_1_0b:Nat} {r:(List zp)},zU n s_0 del_1_0=some r→Meets Tryz.prog 116 [s_0v,.func (.func 117) #[] #[boxP del_1_0b 0]] [row s_0v 2 (s_0.map zp.enc),box del_1_0b [.int .i64 del_1_0.Op,.int .i64 del_1_0.A,.string (bs del_1_0.S)]] (fun v G=>∃ v0,v=v0∧G=[row v0 2 (r.map zp.enc),box del_1_0b [.int .i64 del_1_0.Op,.int .i64 del_1_0.A,.string (bs del_1_0.S)]])):=⟨Tryz.call116,by
 intros; rename_i h; unfold zU at h
 exact dfn (.c .e (.j 0 [0] [(5,.t 1)] [.p 0 2,.k 2] (.l 0 [0,1] [(5,.t 1),(6,.t 3)] [.p 0 4,.k 2] (.c (.j 0 [0,1,6] [(5,.t 1)] [.p 0 2,.k 1] .e .e) .e)) (.s .e))) Tryz.func116 Tryz.ntmps116 Tryz.results116 h⟩
instance effect_Declared_1_49_k:Con Tryz.prog 49 0 (∀ {n:Nat} {e_0:Int} {a_1:zG} {a_1b:Nat} {a_1_Effectsv:Value} {a_1_Codev:Value} {r:Bool},z5q n e_0 a_1=some r→Meets Tryz.prog 49 [.int .i64 e_0,boxP a_1b 0] [ro a_1_Effectsv 1 (a_1.Effects.map (eInt .i64)),nro a_1_Codev zx a_1.Code,box a_1b [.string (bs a_1.Name),a_1_Effectsv,a_1_Codev]] (fun v G=>v = .bool r∧G=[box a_1b [.string (bs a_1.Name),a_1_Effectsv,a_1_Codev]])):=⟨Tryz.call49,by
 intros; rename_i h; unfold z5q at h
 exact dfn .e Tryz.func49 Tryz.ntmps49 Tryz.results49 h⟩
instance slices_ContainsFunc_int_int_48_v2_k:Con Tryz.prog 48 2 (∀ {n:Nat} {s_0:(List Int)} {f_1_0:Int} {s_0v:Value} {f_1_0b:Nat} {r:Bool},z1c n s_0 f_1_0=some r→Meets Tryz.prog 48 [s_0v,.func (.func 153) #[] #[boxP f_1_0b 0]] [ro s_0v 1 (s_0.map (eInt .i64)),box f_1_0b [.int .i64 f_1_0]] (fun v G=>v = .bool r∧G=[box f_1_0b [.int .i64 f_1_0]])):=⟨Tryz.call48,by
 intros; rename_i h; unfold z1c at h
 exact dfn .e Tryz.func48 Tryz.ntmps48 Tryz.results48 h⟩
instance ref20_Right_k:Con Tryz.prog 5 0 (∀ {n:Nat} {p_0:zG} {p_0_Effectsv:Value} {p_0_Codev:Value} {r:Bool},z5w n p_0=some r→Meets Tryz.prog 5 [.agg #[.string (bs p_0.Name),p_0_Effectsv,p_0_Codev]] [ro p_0_Effectsv 1 (p_0.Effects.map (eInt .i64)),nro p_0_Codev zx p_0.Code] (fun v G=>v = .bool r∧G=[])):=⟨Tryz.call5,by
 intros; rename_i h; unfold z5w at h
 exact dfn (.j 0 [1] [] [.k 2,.k 0,.k 1] (.l 0 [1] [(3,.t 0)] [.k 2,.k 0,.k 1] .e) .e) Tryz.func5 Tryz.ntmps5 Tryz.results5 h⟩
instance effect_repeat_k:Con Tryz.prog 148 0 (∀ {n:Nat} {n_0:Int} {body_1:zJ} {r:zJ},z6j n n_0 body_1=some r→Meets Tryz.prog 148 [.int .i64 n_0,.agg #[.bool body_1.on_.is_,.int .i64 body_1.on_.lo_,.int .i64 body_1.on_.hi_,.bool body_1.end_.is_,.int .i64 body_1.end_.lo_,.int .i64 body_1.end_.hi_]] [] (fun v G=>v = .agg #[.bool r.on_.is_,.int .i64 r.on_.lo_,.int .i64 r.on_.hi_,.bool r.end_.is_,.int .i64 r.end_.lo_,.int .i64 r.end_.hi_]∧G=[])):=⟨Tryz.call148,by
 intros; rename_i h; unfold z6j at h
 exact dfn (.j 0 [4,5] [] [.k 1,.b 2 [.t 1,.t 3,.t 5,.t 7,.t 9,.t 10]] (.l 0 [3,4,5,8] [(9,.t 1)] [.k 0,.k 1,.b 2 [.t 3,.t 5,.t 7,.t 9,.t 11,.t 12]] .e) .e) Tryz.func148 Tryz.ntmps148 Tryz.results148 h⟩
instance slices_IndexFunc_int_int_103_v1_k:Con Tryz.prog 103 1 (∀ {n:Nat} {s_0:(List Int)} {f_1_0:zG} {s_0v:Value} {f_1_0b:Nat} {f_1_0_Effectsv:Value} {f_1_0_Codev:Value} {r:Int},z3D n s_0 f_1_0=some r→Meets Tryz.prog 103 [s_0v,.func (.func 49) #[] #[boxP f_1_0b 0]] [ro s_0v 1 (s_0.map (eInt .i64)),ro f_1_0_Effectsv 1 (f_1_0.Effects.map (eInt .i64)),nro f_1_0_Codev zx f_1_0.Code,box f_1_0b [.string (bs f_1_0.Name),f_1_0_Effectsv,f_1_0_Codev]] (fun v G=>v = .int .i64 r∧G=[box f_1_0b [.string (bs f_1_0.Name),f_1_0_Effectsv,f_1_0_Codev]])):=⟨Tryz.call103,by
 intros; rename_i h; unfold z3D at h
 exact dfn (.j 0 [] [] [.k 3,.k 1,.k 2] (.l 0 [0,1,7] [(8,.t 0)] [.k 0,.k 3,.k 1,.k 2] .e) .e) Tryz.func103 Tryz.ntmps103 Tryz.results103 h⟩
instance effect_statement_k {rec_effect_block:(List z7)→Option (zJ)} [Con Tryz.prog 51 9 (∀ {l_0:(List z7)} {l_0v:Value} {r:zJ},rec_effect_block l_0=some r→Meets Tryz.prog 51 [l_0v] [nro l_0v zx l_0] (fun v G=>v = .agg #[.bool r.on_.is_,.int .i64 r.on_.lo_,.int .i64 r.on_.hi_,.bool r.end_.is_,.int .i64 r.end_.lo_,.int .i64 r.end_.hi_]∧G=[]))]:Con Tryz.prog 107 0 (∀ {n:Nat} {s_0:z7} {s_0_X_Argsv:Value} {s_0_Bodyv:Value} {s_0_Elsev:Value} {r:zJ},z4k n rec_effect_block s_0=some r→Meets Tryz.prog 107 [.agg #[.int .i64 s_0.Kind,.int .i64 s_0.Slot,.int .i64 s_0.N,.string (bs s_0.Name),.int .i64 s_0.X.Op,.int .i64 s_0.X.Type_,.int .i64 s_0.X.N,.int .i64 s_0.X.Slot,.string (bs s_0.X.S),s_0_X_Argsv,s_0_Bodyv,s_0_Elsev]] [nro s_0_X_Argsv zE s_0.X.Args,nro s_0_Bodyv zx s_0.Body,nro s_0_Elsev zx s_0.Else] (fun v G=>v = .agg #[.bool r.on_.is_,.int .i64 r.on_.lo_,.int .i64 r.on_.hi_,.bool r.end_.is_,.int .i64 r.end_.lo_,.int .i64 r.end_.hi_]∧G=[])):=⟨Tryz.call107,by
 intros; rename_i h; unfold z4k at h
 exact dfn (.c (.d [2,3,6,7,0,1,4,5,8,9,10,11,12] [4] [.t,.t,.t,.t,.f,.t,.f,.t,.f,.f,.f,.f,.f] [] .e) (.c (.d [0,1,6,7,9,10,2,3,4,5,8,11,12,13,14] [4] [.t,.t,.t,.t,.t,.t,.f,.t,.f,.t,.f,.f,.f,.f,.f] [] .e) (.j 0 [1,2] [(35,.t 0)] [.k 3,.k 0,.k 1,.k 2,.k 4] .e .e))) Tryz.func107 Tryz.ntmps107 Tryz.results107 h⟩
end Go.Proofs.YtgjcniomhahgkaaGreatDoor
