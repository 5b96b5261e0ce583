/-
  Texts that stand side by side: TfAz, TfBa.
-/
import Derived.Test.YtgjcniomhahgkaaGreatDoorM11
import Derived.Test.YtgjcniomhahgkaaGreatDoorM9
import Derived.Test.YtgjcniomhahgkaaGreatDoorTfAy
import Derived.Test.YtgjcniomhahgkaaGreatDoorTfAe
set_option linter.unusedSimpArgs false
set_option linter.unusedVariables false
namespace Go.Proofs.YtgjcniomhahgkaaGreatDoor
open Go.Abs
set_option maxRecDepth 20000
set_option maxHeartbeats 2000000
theorem z4W {n:Nat} {rec_weirgate_typing_typer_block_186:zz→(List zB)→Int→Option ((List z7)×zz)} [Con Tryz.prog 186 9 (∀ {t_0:zz} {l_1:(List zB)} {deep_2:Int} {t_0b:Nat} {t_0_vars_v:Value} {t_0_rules_v:Value} {l_1v:Value} {r:(List z7)×zz},rec_weirgate_typing_typer_block_186 t_0 l_1 deep_2=some r→Meets Tryz.prog 186 [boxP t_0b 0,l_1v,.int .i64 deep_2] [row t_0_vars_v 2 (t_0.vars_.map zk.enc),rulA t_0_rules_v,box t_0b [t_0_vars_v,t_0_rules_v],nro l_1v zF l_1,globA] (fun v G=>∃ v0 v1 v2,v=v0∧G=[nrow v0 zx r.1,row v1 2 (r.2.vars_.map zk.enc),rulA v2,box t_0b [v1,v2]]))]:∀ {t_0:zz} {l_1:(List zB)} {deep_2:Int} {t_0b:Nat} {t_0_vars_v:Value} {t_0_rules_v:Value} {l_1v:Value} {r:(List z7)×zz},z2S n rec_weirgate_typing_typer_block_186 t_0 l_1 deep_2=some r→Meets Tryz.prog 186 [boxP t_0b 0,l_1v,.int .i64 deep_2] [row t_0_vars_v 2 (t_0.vars_.map zk.enc),rulA t_0_rules_v,box t_0b [t_0_vars_v,t_0_rules_v],nro l_1v zF l_1,globA] (fun v G=>∃ v0 v1 v2,v=v0∧G=[nrow v0 zx r.1,row v1 2 (r.2.vars_.map zk.enc),rulA v2,box t_0b [v1,v2]]):=by
 intros; rename_i h; unfold z2S at h
 exact dfn (.j 3 [0,7] [(8,.g 1)] [.wn 1 1,.b 2 [.g 3,.g 4],.w 3 3,.w 4 4,.k 4] (.l 3 [0,2,7,16,17] [(8,.g 1),(18,.t 3)] [.wn 1 1,.b 2 [.g 3,.g 4],.w 5 3,.w 6 4,.k 3,.k 4] .e) .e) Tryz.func186 Tryz.ntmps186 Tryz.results186 h
theorem z5R {n:Nat}:∀ {t_0:zz} {l_1:(List zB)} {deep_2:Int} {t_0b:Nat} {t_0_vars_v:Value} {t_0_rules_v:Value} {l_1v:Value} {r:(List z7)×zz},z2D n  t_0 l_1 deep_2=some r→Meets Tryz.prog 186 [boxP t_0b 0,l_1v,.int .i64 deep_2] [row t_0_vars_v 2 (t_0.vars_.map zk.enc),rulA t_0_rules_v,box t_0b [t_0_vars_v,t_0_rules_v],nro l_1v zF l_1,globA] (fun v G=>∃ v0 v1 v2,v=v0∧G=[nrow v0 zx r.1,row v1 2 (r.2.vars_.map zk.enc),rulA v2,box t_0b [v1,v2]]):=by
 induction n with
 | zero=>intros; rename_i h; cases h
 | succ n ih=>exact @z4W n _ ⟨Tryz.call186,ih⟩
instance weirgate_typing_typer_block_186_k:Con Tryz.prog 186 0 (∀ {n:Nat} {t_0:zz} {l_1:(List zB)} {deep_2:Int} {t_0b:Nat} {t_0_vars_v:Value} {t_0_rules_v:Value} {l_1v:Value} {r:(List z7)×zz},z2D n t_0 l_1 deep_2=some r→Meets Tryz.prog 186 [boxP t_0b 0,l_1v,.int .i64 deep_2] [row t_0_vars_v 2 (t_0.vars_.map zk.enc),rulA t_0_rules_v,box t_0b [t_0_vars_v,t_0_rules_v],nro l_1v zF l_1,globA] (fun v G=>∃ v0 v1 v2,v=v0∧G=[nrow v0 zx r.1,row v1 2 (r.2.vars_.map zk.enc),rulA v2,box t_0b [v1,v2]])):=⟨Tryz.call186,z5R⟩
end Go.Proofs.YtgjcniomhahgkaaGreatDoor
namespace Go.Proofs.YtgjcniomhahgkaaGreatDoor
open Go.Abs
set_option maxRecDepth 20000
set_option maxHeartbeats 2000000
theorem z4I {n:Nat} {rec_weirgate_typing_checker_block_102:zw→(List z7)→Int→Option (Bool×zw)} [Con Tryz.prog 102 9 (∀ {c_0:zw} {l_1:(List z7)} {deep_2:Int} {c_0b:Nat} {c_0_typer__vars_v:Value} {c_0_typer__rules_v:Value} {c_0_kinds_v:Value} {l_1v:Value} {r:Bool×zw},rec_weirgate_typing_checker_block_102 c_0 l_1 deep_2=some r→Meets Tryz.prog 102 [boxP c_0b 0,l_1v,.int .i64 deep_2] [row c_0_typer__vars_v 2 (c_0.typer_.vars_.map zk.enc),rulA c_0_typer__rules_v,row c_0_kinds_v 1 (c_0.kinds_.map (eInt .i64)),box c_0b [c_0_typer__vars_v,c_0_typer__rules_v,c_0_kinds_v],nro l_1v zx l_1] (fun v G=>∃ v0 v1 v2,v = .bool r.1∧G=[row v0 2 (r.2.typer_.vars_.map zk.enc),rulA v1,row v2 1 (r.2.kinds_.map (eInt .i64)),box c_0b [v0,v1,v2]]))]:∀ {c_0:zw} {l_1:(List z7)} {deep_2:Int} {c_0b:Nat} {c_0_typer__vars_v:Value} {c_0_typer__rules_v:Value} {c_0_kinds_v:Value} {l_1v:Value} {r:Bool×zw},z16 n rec_weirgate_typing_checker_block_102 c_0 l_1 deep_2=some r→Meets Tryz.prog 102 [boxP c_0b 0,l_1v,.int .i64 deep_2] [row c_0_typer__vars_v 2 (c_0.typer_.vars_.map zk.enc),rulA c_0_typer__rules_v,row c_0_kinds_v 1 (c_0.kinds_.map (eInt .i64)),box c_0b [c_0_typer__vars_v,c_0_typer__rules_v,c_0_kinds_v],nro l_1v zx l_1] (fun v G=>∃ v0 v1 v2,v = .bool r.1∧G=[row v0 2 (r.2.typer_.vars_.map zk.enc),rulA v1,row v2 1 (r.2.kinds_.map (eInt .i64)),box c_0b [v0,v1,v2]]):=by
 intros; rename_i h; unfold z16 at h
 exact dfn (.j 3 [0,7] [] [.b 3 [.g 1,.g 3,.g 4],.w 1 1,.w 3 3,.w 4 4] (.l 3 [0,2,7,15,16] [(17,.t 1)] [.b 3 [.g 1,.g 3,.g 4],.w 3 1,.w 5 3,.w 6 4,.k 4] .e) .e) Tryz.func102 Tryz.ntmps102 Tryz.results102 h
theorem z5s {n:Nat}:∀ {c_0:zw} {l_1:(List z7)} {deep_2:Int} {c_0b:Nat} {c_0_typer__vars_v:Value} {c_0_typer__rules_v:Value} {c_0_kinds_v:Value} {l_1v:Value} {r:Bool×zw},zY n  c_0 l_1 deep_2=some r→Meets Tryz.prog 102 [boxP c_0b 0,l_1v,.int .i64 deep_2] [row c_0_typer__vars_v 2 (c_0.typer_.vars_.map zk.enc),rulA c_0_typer__rules_v,row c_0_kinds_v 1 (c_0.kinds_.map (eInt .i64)),box c_0b [c_0_typer__vars_v,c_0_typer__rules_v,c_0_kinds_v],nro l_1v zx l_1] (fun v G=>∃ v0 v1 v2,v = .bool r.1∧G=[row v0 2 (r.2.typer_.vars_.map zk.enc),rulA v1,row v2 1 (r.2.kinds_.map (eInt .i64)),box c_0b [v0,v1,v2]]):=by
 induction n with
 | zero=>intros; rename_i h; cases h
 | succ n ih=>exact @z4I n _ ⟨Tryz.call102,ih⟩
instance weirgate_typing_checker_block_102_k:Con Tryz.prog 102 0 (∀ {n:Nat} {c_0:zw} {l_1:(List z7)} {deep_2:Int} {c_0b:Nat} {c_0_typer__vars_v:Value} {c_0_typer__rules_v:Value} {c_0_kinds_v:Value} {l_1v:Value} {r:Bool×zw},zY n c_0 l_1 deep_2=some r→Meets Tryz.prog 102 [boxP c_0b 0,l_1v,.int .i64 deep_2] [row c_0_typer__vars_v 2 (c_0.typer_.vars_.map zk.enc),rulA c_0_typer__rules_v,row c_0_kinds_v 1 (c_0.kinds_.map (eInt .i64)),box c_0b [c_0_typer__vars_v,c_0_typer__rules_v,c_0_kinds_v],nro l_1v zx l_1] (fun v G=>∃ v0 v1 v2,v = .bool r.1∧G=[row v0 2 (r.2.typer_.vars_.map zk.enc),rulA v1,row v2 1 (r.2.kinds_.map (eInt .i64)),box c_0b [v0,v1,v2]])):=⟨Tryz.call102,z5s⟩
instance typing_program_k:Con Tryz.prog 145 0 (∀ {n:Nat} {x_0:z1d} {x_0_Effectsv:Value} {x_0_Codev:Value} {r:zG},z7y n x_0=some r→Meets Tryz.prog 145 [.agg #[.string (bs x_0.Name),.int .i64 x_0.At,x_0_Effectsv,x_0_Codev]] [ro x_0_Effectsv 1 (x_0.Effects.map (eInt .i64)),nro x_0_Codev zF x_0.Code,globA] (fun v G=>∃ v0 v1,v = .agg #[.string (bs r.Name),v0,v1]∧G=[row v0 1 (r.Effects.map (eInt .i64)),nrow v1 zx r.Code])):=⟨Tryz.call145,by
 intros; rename_i h; unfold z7y at h
 exact dfn (.d [0,1,2,3,4,5,6,7,8] [4,6] [.t,.t,.t,.t,.t,.t,.f,.f,.f] [] .e) Tryz.func145 Tryz.ntmps145 Tryz.results145 h⟩
instance typing_Right_k:Con Tryz.prog 47 0 (∀ {n:Nat} {p_0:zG} {p_0_Effectsv:Value} {p_0_Codev:Value} {r:Bool},z3e n p_0=some r→Meets Tryz.prog 47 [.agg #[.string (bs p_0.Name),p_0_Effectsv,p_0_Codev]] [ro p_0_Effectsv 1 (p_0.Effects.map (eInt .i64)),nro p_0_Codev zx p_0.Code] (fun v G=>v = .bool r∧G=[])):=⟨Tryz.call47,by
 intros; rename_i h; unfold z3e at h
 exact dfn (.j 0 [1] [] [.k 2,.k 0,.k 1] (.l 0 [1,7,8] [(9,.t 0)] [.k 2,.k 0,.k 1] .e) .e) Tryz.func47 Tryz.ntmps47 Tryz.results47 h⟩
instance typing_Right_v1_k:Con Tryz.prog 47 1 (∀ {n:Nat} {p_0:zG} {p_0_Effectsv:Value} {p_0_Codev:Value} {r:Bool},z4i n p_0=some r→Meets Tryz.prog 47 [.agg #[.string (bs p_0.Name),p_0_Effectsv,p_0_Codev]] [ro p_0_Effectsv 1 (p_0.Effects.map (eInt .i64)),nrow p_0_Codev zx p_0.Code] (fun v G=>v = .bool r∧G=[])):=⟨Tryz.call47,by
 intros; rename_i h; unfold z4i at h
 exact dfn (.j 0 [1] [] [.k 2,.k 0,.k 1] (.l 0 [1,7,8] [(9,.t 0)] [.k 2,.k 0,.k 1] .e) .e) Tryz.func47 Tryz.ntmps47 Tryz.results47 h⟩
instance typing_source_k:Con Tryz.prog 101 0 (∀ {n:Nat} {x_0:z2z} {x_0_Policiesv:Value} {x_0_Programsv:Value} {r:z62},z7U n x_0=some r→Meets Tryz.prog 101 [.agg #[x_0_Policiesv,x_0_Programsv]] [nro x_0_Policiesv z3r x_0.Policies,nro x_0_Programsv z23 x_0.Programs,globA] (fun v G=>∃ v0 v1,v = .agg #[v0,v1]∧G=[nrow v0 z5l r.Policies,nrow v1 z4a r.Programs])):=⟨Tryz.call101,by
 intros; rename_i h; unfold z7U at h
 exact dfn (.j 0 [1,2] [] [.k 3,.k 0,.k 1,.k 4,.k 2] (.l 0 [1,2,8,9,10] [] [.k 3,.k 0,.k 1,.k 4,.k 2] .e) (.j 1 [2] [] [.b 3 [.k,.g 0],.wn 0 0,.k 4] (.l 1 [1,2,35,36] [(37,.t 1)] [.k 0,.k 1,.k 2,.b 3 [.k,.g 0],.wn 2 0,.k 4] (.c (.d [0,1,2,3,4,6,7,5,8] [] [.t,.t,.t,.t,.t,.t,.t,.f,.f] [] (.d [0,1,2,3,4,5,6,7] [] [.t,.t,.t,.f,.f,.f,.t,.f] [[],[],[],[7],[5]] .e)) .e)) .e)) Tryz.func101 Tryz.ntmps101 Tryz.results101 h⟩
end Go.Proofs.YtgjcniomhahgkaaGreatDoor
