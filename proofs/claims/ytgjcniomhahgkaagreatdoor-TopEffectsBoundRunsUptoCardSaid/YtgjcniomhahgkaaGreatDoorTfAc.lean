/-
  The walks: slices_IndexFunc_weirgate_typing_variable_weirgate_typing_variable_270, typing_all_1_286, typing_digits, typing_fail, typing_nothing, typing_plain, typing_sorted_int_185, typing_table, typing_table_1_272, typing_wants, weirgate_typing_typer_find_1_271, weirgate_typing_typer_find_255.
-/
import Derived.Test.YtgjcniomhahgkaaGreatDoorM11
import Derived.Test.YtgjcniomhahgkaaGreatDoorM9
import Derived.Test.YtgjcniomhahgkaaGreatDoorTfAb
set_option linter.unusedSimpArgs false
set_option linter.unusedVariables false
namespace Go.Proofs.YtgjcniomhahgkaaGreatDoor
open Go.Abs
set_option maxRecDepth 20000
set_option maxHeartbeats 2000000
instance typing_table_1_272_k:Con Tryz.prog 272 0 (∀ {from_0:Int} {to_1:Int} {r:Unit},z4V from_0 to_1=some r→Meets Tryz.prog 272 [.int .i64 from_0,.int .i64 to_1] [] (fun v G=>∃ v0 v1,v = .func (.func 273) #[] #[boxP v0 0,boxP v1 0]∧G=[box v0 [.int .i64 from_0],box v1 [.int .i64 to_1]])):=⟨Tryz.call272,by
 intros; rename_i h; unfold z4V at h
 exact dfn .e Tryz.func272 Tryz.ntmps272 Tryz.results272 h⟩
instance typing_all_1_286_k:Con Tryz.prog 286 0 (∀ {x_0:Int} {a_1:Int} {a_1b:Nat} {r:Bool},z5M x_0 a_1=some r→Meets Tryz.prog 286 [.int .i64 x_0,boxP a_1b 0] [box a_1b [.int .i64 a_1]] (fun v G=>v = .bool r∧G=[box a_1b [.int .i64 a_1]])):=⟨Tryz.call286,by
 intros; rename_i h; unfold z5M at h
 exact dfn .e Tryz.func286 Tryz.ntmps286 Tryz.results286 h⟩
instance typing_fail_k:Con Tryz.prog 139 0 (∀ {is_0:Bool} {at_1:Int} {e_2:Int} {r:Unit},z4p is_0 at_1 e_2=some r→Meets Tryz.prog 139 [.bool is_0,.int .i64 at_1,.int .i64 e_2] [] (fun v G=>v = .tuple #[]∧G=[])):=⟨Tryz.call139,by
 intros; rename_i h; unfold z4p at h
 exact dfn .e Tryz.func139 Tryz.ntmps139 Tryz.results139 h⟩
instance typing_digits_k:Con Tryz.prog 248 0 (∀ {s_0:(List UInt8)} {r:Int},z7T s_0=some r→Meets Tryz.prog 248 [.string (bs s_0)] [globA] (fun v G=>v = .int .i64 r∧G=[])):=⟨Tryz.call248,by
 intros; rename_i h; unfold z7T at h
 exact dfn .e Tryz.func248 Tryz.ntmps248 Tryz.results248 h⟩
instance weirgate_typing_typer_find_1_271_k:Con Tryz.prog 271 0 (∀ {v_0:zk} {a_1:(List UInt8)} {a_1b:Nat} {r:Bool},z3z v_0 a_1=some r→Meets Tryz.prog 271 [.agg #[.string (bs v_0.name_),.int .i64 v_0.kind_],boxP a_1b 0] [box a_1b [.string (bs a_1)]] (fun v G=>v = .bool r∧G=[box a_1b [.string (bs a_1)]])):=⟨Tryz.call271,by
 intros; rename_i h; unfold z3z at h
 exact dfn .e Tryz.func271 Tryz.ntmps271 Tryz.results271 h⟩
instance typing_wants_k:Con Tryz.prog 189 0 (∀ {kind_0:Int} {r:Int},z6S kind_0=some r→Meets Tryz.prog 189 [.int .i64 kind_0] [] (fun v G=>v = .int .i64 r∧G=[])):=⟨Tryz.call189,by
 intros; rename_i h; unfold z6S at h
 exact dfn .e Tryz.func189 Tryz.ntmps189 Tryz.results189 h⟩
instance typing_nothing_k:Con Tryz.prog 187 0 (∀ {x_0:zm} {x_0_Argsv:Value} {r:Bool},z6C x_0=some r→Meets Tryz.prog 187 [.agg #[.int .i64 x_0.Op,.int .i64 x_0.Type_,.int .i64 x_0.N,.int .i64 x_0.Slot,.string (bs x_0.S),x_0_Argsv]] [nro x_0_Argsv zE x_0.Args] (fun v G=>v = .bool r∧G=[])):=⟨Tryz.call187,by
 intros; rename_i h; unfold z6C at h
 exact dfn .e Tryz.func187 Tryz.ntmps187 Tryz.results187 h⟩
instance typing_plain_k:Con Tryz.prog 235 0 (∀ {x_0:zm} {bare_1:zm} {x_0_Argsv:Value} {bare_1_Argsv:Value} {r:Bool},z7x x_0 bare_1=some r→Meets Tryz.prog 235 [.agg #[.int .i64 x_0.Op,.int .i64 x_0.Type_,.int .i64 x_0.N,.int .i64 x_0.Slot,.string (bs x_0.S),x_0_Argsv],.agg #[.int .i64 bare_1.Op,.int .i64 bare_1.Type_,.int .i64 bare_1.N,.int .i64 bare_1.Slot,.string (bs bare_1.S),bare_1_Argsv]] [nro x_0_Argsv zE x_0.Args,nro bare_1_Argsv zE bare_1.Args] (fun v G=>v = .bool r∧G=[])):=⟨Tryz.call235,by
 intros; rename_i h; unfold z7x at h
 exact dfn .e Tryz.func235 Tryz.ntmps235 Tryz.results235 h⟩
instance typing_table_k:Con Tryz.prog 256 0 (∀ {r:Unit},z6d=some r→Meets Tryz.prog 256 [] [] (fun v G=>∃ v0 v1 v2 v3 v4 v5,v = .map (some v0)∧G=[mapis v0 (mcells (fun n:Int=>Value.int .i64 n) (fun v:Value=>v) ([(8,.func (.func 273) #[] #[boxP v1 0,boxP v2 0]),(11,.func (.func 273) #[] #[boxP v1 0,boxP v2 0]),(12,.func (.func 273) #[] #[boxP v1 0,boxP v2 0]),(13,.func (.func 273) #[] #[boxP v1 0,boxP v2 0]),(14,.func (.func 273) #[] #[boxP v1 0,boxP v2 0]),(10,.func (.func 275) #[] #[]),(15,.func (.func 276) #[] #[boxP v3 0]),(16,.func (.func 276) #[] #[boxP v3 0]),(17,.func (.func 276) #[] #[boxP v3 0]),(18,.func (.func 276) #[] #[boxP v3 0]),(19,.func (.func 277) #[] #[]),(20,.func (.func 277) #[] #[]),(23,.func (.func 277) #[] #[]),(9,.func (.func 273) #[] #[boxP v4 0,boxP v5 0]),(21,.func (.func 273) #[] #[boxP v4 0,boxP v5 0]),(22,.func (.func 273) #[] #[boxP v4 0,boxP v5 0])]:List (Int×Value))),box v1 [.int .i64 1],box v2 [.int .i64 1],box v3 [.func (.func 275) #[] #[]],box v4 [.int .i64 3],box v5 [.int .i64 3]])):=⟨Tryz.call256,by
 intros; rename_i h; unfold z6d at h
 exact dfn .e Tryz.func256 Tryz.ntmps256 Tryz.results256 h⟩
instance typing_sorted_int_185_k:Con Tryz.prog 185 0 (∀ {n:Nat} {l_0:(List Int)} {l_0v:Value} {r:(List Int)×Bool},z52 n l_0=some r→Meets Tryz.prog 185 [l_0v] [ro l_0v 1 (l_0.map (eInt .i64))] (fun v G=>∃ v0,v = .tuple #[v0,.bool r.2]∧G=[row v0 1 (r.1.map (eInt .i64))])):=⟨Tryz.call185,by
 intros; rename_i h; unfold z52 at h
 exact dfn .e Tryz.func185 Tryz.ntmps185 Tryz.results185 h⟩
instance slices_IndexFunc_weirgate_typing_variable_weirgate_typing_variable_270_k:Con Tryz.prog 270 0 (∀ {n:Nat} {s_0:(List zk)} {f_1_0:(List UInt8)} {s_0v:Value} {f_1_0b:Nat} {r:Int},z19 n s_0 f_1_0=some r→Meets Tryz.prog 270 [s_0v,.func (.func 271) #[] #[boxP f_1_0b 0]] [ro s_0v 2 (s_0.map zk.enc),box f_1_0b [.string (bs f_1_0)]] (fun v G=>v = .int .i64 r∧G=[box f_1_0b [.string (bs f_1_0)]])):=⟨Tryz.call270,by
 intros; rename_i h; unfold z19 at h
 exact dfn (.j 0 [] [] [.k 1] (.l 0 [0,1,7] [(8,.t 0)] [.k 0,.k 1] .e) .e) Tryz.func270 Tryz.ntmps270 Tryz.results270 h⟩
instance weirgate_typing_typer_find_255_k:Con Tryz.prog 255 0 (∀ {n:Nat} {t_0:zz} {name_1:(List UInt8)} {t_0b:Nat} {t_0_vars_v:Value} {t_0_rules_v:Value} {r:Int},z2N n t_0 name_1=some r→Meets Tryz.prog 255 [boxP t_0b 0,.string (bs name_1)] [row t_0_vars_v 2 (t_0.vars_.map zk.enc),rulA t_0_rules_v,box t_0b [t_0_vars_v,t_0_rules_v]] (fun v G=>v = .int .i64 r∧G=[row t_0_vars_v 2 (t_0.vars_.map zk.enc),rulA t_0_rules_v,box t_0b [t_0_vars_v,t_0_rules_v]])):=⟨Tryz.call255,by
 intros; rename_i h; unfold z2N at h
 exact dfn .e Tryz.func255 Tryz.ntmps255 Tryz.results255 h⟩
end Go.Proofs.YtgjcniomhahgkaaGreatDoor
