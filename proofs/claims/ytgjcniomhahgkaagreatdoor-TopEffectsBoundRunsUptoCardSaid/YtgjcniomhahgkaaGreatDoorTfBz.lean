/-
  The walks: effect_Declared, effect_Least, effect_Most, effect_all, effect_block, slices_ContainsFunc_int_int_48_v1, top_languageAwake, top_languageTyped.
-/
import Derived.Test.YtgjcniomhahgkaaGreatDoorM11
import Derived.Test.YtgjcniomhahgkaaGreatDoorM9
import Derived.Test.YtgjcniomhahgkaaGreatDoorM39
import Derived.Test.YtgjcniomhahgkaaGreatDoorTfBo
import Derived.Test.YtgjcniomhahgkaaGreatDoorM23
set_option linter.unusedSimpArgs false
set_option linter.unusedVariables false
namespace Go.Proofs.YtgjcniomhahgkaaGreatDoor
open Go.Abs
set_option maxRecDepth 20000
set_option maxHeartbeats 2000000
instance slices_ContainsFunc_int_int_48_v1_k:Con Tryz.prog 48 1 (∀ {n:Nat} {s_0:(List Int)} {f_1_0:zG} {s_0v:Value} {f_1_0b:Nat} {f_1_0_Effectsv:Value} {f_1_0_Codev:Value} {r:Bool},z3l n s_0 f_1_0=some r→Meets Tryz.prog 48 [s_0v,.func (.func 49) #[] #[boxP f_1_0b 0]] [ro s_0v 1 (s_0.map (eInt .i64)),ro f_1_0_Effectsv 1 (f_1_0.Effects.map (eInt .i64)),nro f_1_0_Codev zx f_1_0.Code,box f_1_0b [.string (bs f_1_0.Name),f_1_0_Effectsv,f_1_0_Codev]] (fun v G=>v = .bool r∧G=[box f_1_0b [.string (bs f_1_0.Name),f_1_0_Effectsv,f_1_0_Codev]])):=⟨Tryz.call48,by
 intros; rename_i h; unfold z3l at h
 exact dfn .e Tryz.func48 Tryz.ntmps48 Tryz.results48 h⟩
theorem z8g {n:Nat} {rec_effect_block:(List z7)→Option (zJ)} [Con Tryz.prog 51 9 (∀ {l_0:(List z7)} {l_0v:Value} {r:zJ},rec_effect_block l_0=some r→Meets Tryz.prog 51 [l_0v] [nro l_0v zx l_0] (fun v G=>v = .agg #[.bool r.on_.is_,.int .i64 r.on_.lo_,.int .i64 r.on_.hi_,.bool r.end_.is_,.int .i64 r.end_.lo_,.int .i64 r.end_.hi_]∧G=[]))]:∀ {l_0:(List z7)} {l_0v:Value} {r:zJ},z4z n rec_effect_block l_0=some r→Meets Tryz.prog 51 [l_0v] [nro l_0v zx l_0] (fun v G=>v = .agg #[.bool r.on_.is_,.int .i64 r.on_.lo_,.int .i64 r.on_.hi_,.bool r.end_.is_,.int .i64 r.end_.lo_,.int .i64 r.end_.hi_]∧G=[]):=by
 intros; rename_i h; unfold z4z at h
 exact dfn (.j 0 [2,3] [] [.k 1,.b 2 [.t 1,.t 3,.t 5,.t 7,.t 9,.t 10]] (.l 0 [2,3,8,9] [(10,.t 1)] [.k 1,.b 2 [.t 3,.t 5,.t 7,.t 9,.t 11,.t 12],.k 0] (.c (.d [0,1,2,3,4] [] [.t,.t,.f,.f,.f] [[],[4]] .e) .e)) .e) Tryz.func51 Tryz.ntmps51 Tryz.results51 h
theorem za6 {n:Nat}:∀ {l_0:(List z7)} {l_0v:Value} {r:zJ},z4J n  l_0=some r→Meets Tryz.prog 51 [l_0v] [nro l_0v zx l_0] (fun v G=>v = .agg #[.bool r.on_.is_,.int .i64 r.on_.lo_,.int .i64 r.on_.hi_,.bool r.end_.is_,.int .i64 r.end_.lo_,.int .i64 r.end_.hi_]∧G=[]):=by
 induction n with
 | zero=>intros; rename_i h; cases h
 | succ n ih=>exact @z8g n _ ⟨Tryz.call51,ih⟩
instance effect_block_k:Con Tryz.prog 51 0 (∀ {n:Nat} {l_0:(List z7)} {l_0v:Value} {r:zJ},z4J n l_0=some r→Meets Tryz.prog 51 [l_0v] [nro l_0v zx l_0] (fun v G=>v = .agg #[.bool r.on_.is_,.int .i64 r.on_.lo_,.int .i64 r.on_.hi_,.bool r.end_.is_,.int .i64 r.end_.lo_,.int .i64 r.end_.hi_]∧G=[])):=⟨Tryz.call51,za6⟩
instance effect_all_k:Con Tryz.prog 23 0 (∀ {n:Nat} {p_0:zG} {p_0_Effectsv:Value} {p_0_Codev:Value} {r:zD},z7K n p_0=some r→Meets Tryz.prog 23 [.agg #[.string (bs p_0.Name),p_0_Effectsv,p_0_Codev]] [ro p_0_Effectsv 1 (p_0.Effects.map (eInt .i64)),nro p_0_Codev zx p_0.Code] (fun v G=>v = .agg #[.bool r.is_,.int .i64 r.lo_,.int .i64 r.hi_]∧G=[])):=⟨Tryz.call23,by
 intros; rename_i h; unfold z7K at h
 exact dfn .e Tryz.func23 Tryz.ntmps23 Tryz.results23 h⟩
instance effect_Declared_k:Con Tryz.prog 22 0 (∀ {n:Nat} {p_0:zG} {p_0_Effectsv:Value} {p_0_Codev:Value} {r:Bool},z73 n p_0=some r→Meets Tryz.prog 22 [.agg #[.string (bs p_0.Name),p_0_Effectsv,p_0_Codev]] [ro p_0_Effectsv 1 (p_0.Effects.map (eInt .i64)),nro p_0_Codev zx p_0.Code] (fun v G=>v = .bool r∧G=[])):=⟨Tryz.call22,by
 intros; rename_i h; unfold z73 at h
 exact dfn .e Tryz.func22 Tryz.ntmps22 Tryz.results22 h⟩
instance effect_Most_k:Con Tryz.prog 8 0 (∀ {n:Nat} {p_0:zG} {p_0_Effectsv:Value} {p_0_Codev:Value} {r:Int×Int},z65 n p_0=some r→Meets Tryz.prog 8 [.agg #[.string (bs p_0.Name),p_0_Effectsv,p_0_Codev]] [ro p_0_Effectsv 1 (p_0.Effects.map (eInt .i64)),nro p_0_Codev zx p_0.Code] (fun v G=>v = .tuple #[.int .i64 r.1,.int .i64 r.2]∧G=[])):=⟨Tryz.call8,by
 intros; rename_i h; unfold z65 at h
 exact dfn .e Tryz.func8 Tryz.ntmps8 Tryz.results8 h⟩
instance effect_Least_k:Con Tryz.prog 9 0 (∀ {n:Nat} {p_0:zG} {p_0_Effectsv:Value} {p_0_Codev:Value} {r:Int×Int},z64 n p_0=some r→Meets Tryz.prog 9 [.agg #[.string (bs p_0.Name),p_0_Effectsv,p_0_Codev]] [ro p_0_Effectsv 1 (p_0.Effects.map (eInt .i64)),nro p_0_Codev zx p_0.Code] (fun v G=>v = .tuple #[.int .i64 r.1,.int .i64 r.2]∧G=[])):=⟨Tryz.call9,by
 intros; rename_i h; unfold z64 at h
 exact dfn .e Tryz.func9 Tryz.ntmps9 Tryz.results9 h⟩
instance top_languageTyped_k:Con Tryz.prog 21 0 (∀ {n:Nat} {s_0:(List UInt8)} {r:(List zG)×Bool},z6w n s_0=some r→Meets Tryz.prog 21 [.string (bs s_0)] [globA] (fun v G=>∃ v0,v = .tuple #[v0,.bool r.2]∧G=[nrow v0 z4a r.1])):=⟨Tryz.call21,by
 intros; rename_i h; unfold z6w at h
 exact dfn .e Tryz.func21 Tryz.ntmps21 Tryz.results21 h⟩
instance top_languageAwake_k:Con Tryz.prog 7 0 (∀ {n:Nat} {r:Bool},z2a n=some r→Meets Tryz.prog 7 [] [globA] (fun v G=>v = .bool r∧G=[])):=⟨Tryz.call7,by
 intros; rename_i h; unfold z2a at h
 exact dfn .e Tryz.func7 Tryz.ntmps7 Tryz.results7 h⟩
end Go.Proofs.YtgjcniomhahgkaaGreatDoor
