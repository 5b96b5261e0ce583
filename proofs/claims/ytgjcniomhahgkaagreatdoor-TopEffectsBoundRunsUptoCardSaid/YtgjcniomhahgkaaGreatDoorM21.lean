/-
  Texts that stand side by side: TfBp, TfBq, TfBr.
-/
import Derived.Test.YtgjcniomhahgkaaGreatDoorM11
import Derived.Test.YtgjcniomhahgkaaGreatDoorTfAo
import Derived.Test.YtgjcniomhahgkaaGreatDoorM9
import Derived.Test.YtgjcniomhahgkaaGreatDoorM14
set_option linter.unusedSimpArgs false
set_option linter.unusedVariables false
namespace Go.Proofs.YtgjcniomhahgkaaGreatDoor
open Go.Abs
set_option maxRecDepth 20000
set_option maxHeartbeats 2000000
theorem z55 {n:Nat} {rec_weirgate_compile_maker_expr_59:zr→zm→Option (zr)} [Con Tryz.prog 59 9 (∀ {m_0:zr} {x_1:zm} {m_0b:Nat} {m_0_l_v:Value} {x_1_Argsv:Value} {r:zr},rec_weirgate_compile_maker_expr_59 m_0 x_1=some r→Meets Tryz.prog 59 [boxP m_0b 0,.agg #[.int .i64 x_1.Op,.int .i64 x_1.Type_,.int .i64 x_1.N,.int .i64 x_1.Slot,.string (bs x_1.S),x_1_Argsv]] [row m_0_l_v 3 (m_0.l_.map z6.enc),box m_0b [m_0_l_v],nro x_1_Argsv zE x_1.Args] (fun v G=>∃ v0,v = .tuple #[]∧G=[row v0 3 (r.l_.map z6.enc),box m_0b [v0]]))]:∀ {m_0:zr} {x_1:zm} {m_0b:Nat} {m_0_l_v:Value} {x_1_Argsv:Value} {r:zr},z1L n rec_weirgate_compile_maker_expr_59 m_0 x_1=some r→Meets Tryz.prog 59 [boxP m_0b 0,.agg #[.int .i64 x_1.Op,.int .i64 x_1.Type_,.int .i64 x_1.N,.int .i64 x_1.Slot,.string (bs x_1.S),x_1_Argsv]] [row m_0_l_v 3 (m_0.l_.map z6.enc),box m_0b [m_0_l_v],nro x_1_Argsv zE x_1.Args] (fun v G=>∃ v0,v = .tuple #[]∧G=[row v0 3 (r.l_.map z6.enc),box m_0b [v0]]):=by
 intros; rename_i h; unfold z1L at h
 exact dfn (.j 1 [0,3] [] [.b 1 [.g 0],.w 0 0,.k 3,.k 2] (.l 1 [0,3,7,8] [(9,.t 1)] [.b 1 [.g 0],.w 2 0,.k 3,.k 2] .e) (.c .e (.c .e (.j 0 [0,3,18] [(39,.t 0)] [.k 0,.k 1,.k 2,.k 3] .e .e)))) Tryz.func59 Tryz.ntmps59 Tryz.results59 h
theorem z5V {n:Nat}:∀ {m_0:zr} {x_1:zm} {m_0b:Nat} {m_0_l_v:Value} {x_1_Argsv:Value} {r:zr},z1n n  m_0 x_1=some r→Meets Tryz.prog 59 [boxP m_0b 0,.agg #[.int .i64 x_1.Op,.int .i64 x_1.Type_,.int .i64 x_1.N,.int .i64 x_1.Slot,.string (bs x_1.S),x_1_Argsv]] [row m_0_l_v 3 (m_0.l_.map z6.enc),box m_0b [m_0_l_v],nro x_1_Argsv zE x_1.Args] (fun v G=>∃ v0,v = .tuple #[]∧G=[row v0 3 (r.l_.map z6.enc),box m_0b [v0]]):=by
 induction n with
 | zero=>intros; rename_i h; cases h
 | succ n ih=>exact @z55 n _ ⟨Tryz.call59,ih⟩
instance weirgate_compile_maker_expr_59_k:Con Tryz.prog 59 0 (∀ {n:Nat} {m_0:zr} {x_1:zm} {m_0b:Nat} {m_0_l_v:Value} {x_1_Argsv:Value} {r:zr},z1n n m_0 x_1=some r→Meets Tryz.prog 59 [boxP m_0b 0,.agg #[.int .i64 x_1.Op,.int .i64 x_1.Type_,.int .i64 x_1.N,.int .i64 x_1.Slot,.string (bs x_1.S),x_1_Argsv]] [row m_0_l_v 3 (m_0.l_.map z6.enc),box m_0b [m_0_l_v],nro x_1_Argsv zE x_1.Args] (fun v G=>∃ v0,v = .tuple #[]∧G=[row v0 3 (r.l_.map z6.enc),box m_0b [v0]])):=⟨Tryz.call59,z5V⟩
instance weirgate_compile_maker_store_53_k:Con Tryz.prog 53 0 (∀ {m_0:zr} {s_1:z7} {a_2:Int} {m_0b:Nat} {m_0_l_v:Value} {s_1_X_Argsv:Value} {s_1_Bodyv:Value} {s_1_Elsev:Value} {r:zr},z1H m_0 s_1 a_2=some r→Meets Tryz.prog 53 [boxP m_0b 0,.agg #[.int .i64 s_1.Kind,.int .i64 s_1.Slot,.int .i64 s_1.N,.string (bs s_1.Name),.int .i64 s_1.X.Op,.int .i64 s_1.X.Type_,.int .i64 s_1.X.N,.int .i64 s_1.X.Slot,.string (bs s_1.X.S),s_1_X_Argsv,s_1_Bodyv,s_1_Elsev],.int .i64 a_2] [row m_0_l_v 3 (m_0.l_.map z6.enc),box m_0b [m_0_l_v],nro s_1_X_Argsv zE s_1.X.Args,nro s_1_Bodyv zx s_1.Body,nro s_1_Elsev zx s_1.Else] (fun v G=>∃ v0,v = .tuple #[]∧G=[row v0 3 (r.l_.map z6.enc),box m_0b [v0]])):=⟨Tryz.call53,by
 intros; rename_i h; unfold z1H at h
 exact dfn .e Tryz.func53 Tryz.ntmps53 Tryz.results53 h⟩
instance weirgate_compile_maker_header_54_k:Con Tryz.prog 54 0 (∀ {m_0:zr} {s_1:z7} {a_2:Int} {m_0b:Nat} {m_0_l_v:Value} {s_1_X_Argsv:Value} {s_1_Bodyv:Value} {s_1_Elsev:Value} {r:zr},z2t m_0 s_1 a_2=some r→Meets Tryz.prog 54 [boxP m_0b 0,.agg #[.int .i64 s_1.Kind,.int .i64 s_1.Slot,.int .i64 s_1.N,.string (bs s_1.Name),.int .i64 s_1.X.Op,.int .i64 s_1.X.Type_,.int .i64 s_1.X.N,.int .i64 s_1.X.Slot,.string (bs s_1.X.S),s_1_X_Argsv,s_1_Bodyv,s_1_Elsev],.int .i64 a_2] [row m_0_l_v 3 (m_0.l_.map z6.enc),box m_0b [m_0_l_v],nro s_1_X_Argsv zE s_1.X.Args,nro s_1_Bodyv zx s_1.Body,nro s_1_Elsev zx s_1.Else] (fun v G=>∃ v0,v = .tuple #[]∧G=[row v0 3 (r.l_.map z6.enc),box m_0b [v0]])):=⟨Tryz.call54,by
 intros; rename_i h; unfold z2t at h
 exact dfn .e Tryz.func54 Tryz.ntmps54 Tryz.results54 h⟩
instance weirgate_compile_maker_plain_55_k:Con Tryz.prog 55 0 (∀ {m_0:zr} {s_1:z7} {a_2:Int} {m_0b:Nat} {m_0_l_v:Value} {s_1_X_Argsv:Value} {s_1_Bodyv:Value} {s_1_Elsev:Value} {r:zr},z10 m_0 s_1 a_2=some r→Meets Tryz.prog 55 [boxP m_0b 0,.agg #[.int .i64 s_1.Kind,.int .i64 s_1.Slot,.int .i64 s_1.N,.string (bs s_1.Name),.int .i64 s_1.X.Op,.int .i64 s_1.X.Type_,.int .i64 s_1.X.N,.int .i64 s_1.X.Slot,.string (bs s_1.X.S),s_1_X_Argsv,s_1_Bodyv,s_1_Elsev],.int .i64 a_2] [row m_0_l_v 3 (m_0.l_.map z6.enc),box m_0b [m_0_l_v],nro s_1_X_Argsv zE s_1.X.Args,nro s_1_Bodyv zx s_1.Body,nro s_1_Elsev zx s_1.Else] (fun v G=>∃ v0,v = .tuple #[]∧G=[row v0 3 (r.l_.map z6.enc),box m_0b [v0]])):=⟨Tryz.call55,by
 intros; rename_i h; unfold z10 at h
 exact dfn .e Tryz.func55 Tryz.ntmps55 Tryz.results55 h⟩
end Go.Proofs.YtgjcniomhahgkaaGreatDoor
namespace Go.Proofs.YtgjcniomhahgkaaGreatDoor
open Go.Abs
set_option maxRecDepth 20000
set_option maxHeartbeats 2000000
instance weirgate_compile_maker_block_108_k {rec_weirgate_compile_maker_code_25:zr→(List z7)→Int→Option (zr)} [Con Tryz.prog 25 9 (∀ {m_0:zr} {l_1:(List z7)} {known_2:Int} {m_0b:Nat} {m_0_l_v:Value} {l_1v:Value} {r:zr},rec_weirgate_compile_maker_code_25 m_0 l_1 known_2=some r→Meets Tryz.prog 25 [boxP m_0b 0,l_1v,.int .i64 known_2] [row m_0_l_v 3 (m_0.l_.map z6.enc),box m_0b [m_0_l_v],nro l_1v zx l_1] (fun v G=>∃ v0,v = .tuple #[]∧G=[row v0 3 (r.l_.map z6.enc),box m_0b [v0]]))]:Con Tryz.prog 108 0 (∀ {m_0:zr} {l_1:(List z7)} {known_2:Int} {m_0b:Nat} {m_0_l_v:Value} {l_1v:Value} {r:zr},z1q rec_weirgate_compile_maker_code_25 m_0 l_1 known_2=some r→Meets Tryz.prog 108 [boxP m_0b 0,l_1v,.int .i64 known_2] [row m_0_l_v 3 (m_0.l_.map z6.enc),box m_0b [m_0_l_v],nro l_1v zx l_1] (fun v G=>∃ v0,v = .tuple #[]∧G=[row v0 3 (r.l_.map z6.enc),box m_0b [v0]])):=⟨Tryz.call108,by
 intros; rename_i h; unfold z1q at h
 exact dfn .e Tryz.func108 Tryz.ntmps108 Tryz.results108 h⟩
instance wire_Bytes_k:Con Tryz.prog 69 0 (∀ {n:Nat} {s_0:(List UInt8)} {r:(List UInt8)},z7V n s_0=some r→Meets Tryz.prog 69 [.string (bs s_0)] [] (fun v G=>∃ v0,v=v0∧G=[row v0 1 (r.map eB8)])):=⟨Tryz.call69,by
 intros; rename_i h; unfold z7V at h
 exact dfn .e Tryz.func69 Tryz.ntmps69 Tryz.results69 h⟩
instance wire_list_int_70_k:Con Tryz.prog 70 0 (∀ {n:Nat} {l_0:(List Int)} {l_0v:Value} {r:(List UInt8)},z5S n l_0=some r→Meets Tryz.prog 70 [l_0v,.func (.func 71) #[] #[]] [ro l_0v 1 (l_0.map (eInt .i64))] (fun v G=>∃ v0,v=v0∧G=[row v0 1 (r.map eB8)])):=⟨Tryz.call70,by
 intros; rename_i h; unfold z5S at h
 exact dfn (.j 1 [] [(5,.g 0)] [.w 0 0] (.l 1 [1,11,12] [(5,.g 0),(13,.t 2)] [.w 1 0,.k 0] .e) .e) Tryz.func70 Tryz.ntmps70 Tryz.results70 h⟩
instance wire_length_k:Con Tryz.prog 109 0 (∀ {n:Nat} {b_0:(List UInt8)} {least_1:Int} {b_0v:Value} {r:Int×Int×Int},z6f n b_0 least_1=some r→Meets Tryz.prog 109 [b_0v,.int .i64 least_1] [ro b_0v 1 (b_0.map eB8)] (fun v G=>v = .tuple #[.int .i64 r.1,.int .i64 r.2.1,.int .i64 r.2.2]∧G=[])):=⟨Tryz.call109,by
 intros; rename_i h; unfold z6f at h
 exact dfn .e Tryz.func109 Tryz.ntmps109 Tryz.results109 h⟩
instance weirgate_compile_types_push_151_k:Con Tryz.prog 151 0 (∀ {t_0:zl} {kind_1:Int} {t_0_stack_v:Value} {t_0_slots_v:Value} {t_0_loops_v:Value} {r:zl×Bool},z17 t_0 kind_1=some r→Meets Tryz.prog 151 [.agg #[t_0_stack_v,t_0_slots_v,t_0_loops_v],.int .i64 kind_1] [ro t_0_stack_v 1 (t_0.stack_.map (eInt .i64)),ro t_0_slots_v 1 (t_0.slots_.map (eInt .i64)),ro t_0_loops_v 1 (t_0.loops_.map (eInt .i64))] (fun v G=>∃ v0 v1 v2,v = .tuple #[.agg #[v0,v1,v2],.bool r.2]∧G=[row v0 1 (r.1.stack_.map (eInt .i64)),ro v1 1 (r.1.slots_.map (eInt .i64)),ro v2 1 (r.1.loops_.map (eInt .i64))])):=⟨Tryz.call151,by
 intros; rename_i h; unfold z17 at h
 exact dfn .e Tryz.func151 Tryz.ntmps151 Tryz.results151 h⟩
instance compile_same_k:Con Tryz.prog 65 0 (∀ {n:Nat} {a_0:zl} {b_1:zl} {a_0_stack_v:Value} {a_0_slots_v:Value} {a_0_loops_v:Value} {b_1_stack_v:Value} {b_1_slots_v:Value} {b_1_loops_v:Value} {r:Bool},z5p n a_0 b_1=some r→Meets Tryz.prog 65 [.agg #[a_0_stack_v,a_0_slots_v,a_0_loops_v],.agg #[b_1_stack_v,b_1_slots_v,b_1_loops_v]] [ro a_0_stack_v 1 (a_0.stack_.map (eInt .i64)),ro a_0_slots_v 1 (a_0.slots_.map (eInt .i64)),ro a_0_loops_v 1 (a_0.loops_.map (eInt .i64)),ro b_1_stack_v 1 (b_1.stack_.map (eInt .i64)),ro b_1_slots_v 1 (b_1.slots_.map (eInt .i64)),ro b_1_loops_v 1 (b_1.loops_.map (eInt .i64))] (fun v G=>v = .bool r∧G=[])):=⟨Tryz.call65,by
 intros; rename_i h; unfold z5p at h
 exact dfn .e Tryz.func65 Tryz.ntmps65 Tryz.results65 h⟩
instance weirgate_compile_maker_branch_56_k {rec_weirgate_compile_maker_code_25:zr→(List z7)→Int→Option (zr)} [Con Tryz.prog 25 9 (∀ {m_0:zr} {l_1:(List z7)} {known_2:Int} {m_0b:Nat} {m_0_l_v:Value} {l_1v:Value} {r:zr},rec_weirgate_compile_maker_code_25 m_0 l_1 known_2=some r→Meets Tryz.prog 25 [boxP m_0b 0,l_1v,.int .i64 known_2] [row m_0_l_v 3 (m_0.l_.map z6.enc),box m_0b [m_0_l_v],nro l_1v zx l_1] (fun v G=>∃ v0,v = .tuple #[]∧G=[row v0 3 (r.l_.map z6.enc),box m_0b [v0]]))]:Con Tryz.prog 56 0 (∀ {m_0:zr} {s_1:z7} {known_2:Int} {m_0b:Nat} {m_0_l_v:Value} {s_1_X_Argsv:Value} {s_1_Bodyv:Value} {s_1_Elsev:Value} {r:zr},z1X rec_weirgate_compile_maker_code_25 m_0 s_1 known_2=some r→Meets Tryz.prog 56 [boxP m_0b 0,.agg #[.int .i64 s_1.Kind,.int .i64 s_1.Slot,.int .i64 s_1.N,.string (bs s_1.Name),.int .i64 s_1.X.Op,.int .i64 s_1.X.Type_,.int .i64 s_1.X.N,.int .i64 s_1.X.Slot,.string (bs s_1.X.S),s_1_X_Argsv,s_1_Bodyv,s_1_Elsev],.int .i64 known_2] [row m_0_l_v 3 (m_0.l_.map z6.enc),box m_0b [m_0_l_v],nro s_1_X_Argsv zE s_1.X.Args,nro s_1_Bodyv zx s_1.Body,nro s_1_Elsev zx s_1.Else] (fun v G=>∃ v0,v = .tuple #[]∧G=[row v0 3 (r.l_.map z6.enc),box m_0b [v0]])):=⟨Tryz.call56,by
 intros; rename_i h; unfold z1X at h
 exact dfn (.d [0,1,2,3,4,5,6,7,8,9,10,11,12] [10] [.t,.t,.t,.t,.t,.t,.t,.t,.t,.f,.f,.t,.f] [] (.d [0,1,2,3,4,5,6,7,8,9,10,11,12] [12] [.t,.t,.t,.t,.t,.t,.t,.t,.t,.f,.f,.t,.f] [] .e)) Tryz.func56 Tryz.ntmps56 Tryz.results56 h⟩
end Go.Proofs.YtgjcniomhahgkaaGreatDoor
namespace Go.Proofs.YtgjcniomhahgkaaGreatDoor
open Go.Abs
set_option maxRecDepth 20000
set_option maxHeartbeats 2000000
instance weirgate_compile_maker_repeat_57_k {rec_weirgate_compile_maker_code_25:zr→(List z7)→Int→Option (zr)} [Con Tryz.prog 25 9 (∀ {m_0:zr} {l_1:(List z7)} {known_2:Int} {m_0b:Nat} {m_0_l_v:Value} {l_1v:Value} {r:zr},rec_weirgate_compile_maker_code_25 m_0 l_1 known_2=some r→Meets Tryz.prog 25 [boxP m_0b 0,l_1v,.int .i64 known_2] [row m_0_l_v 3 (m_0.l_.map z6.enc),box m_0b [m_0_l_v],nro l_1v zx l_1] (fun v G=>∃ v0,v = .tuple #[]∧G=[row v0 3 (r.l_.map z6.enc),box m_0b [v0]]))]:Con Tryz.prog 57 0 (∀ {m_0:zr} {s_1:z7} {known_2:Int} {m_0b:Nat} {m_0_l_v:Value} {s_1_X_Argsv:Value} {s_1_Bodyv:Value} {s_1_Elsev:Value} {r:zr},z1Y rec_weirgate_compile_maker_code_25 m_0 s_1 known_2=some r→Meets Tryz.prog 57 [boxP m_0b 0,.agg #[.int .i64 s_1.Kind,.int .i64 s_1.Slot,.int .i64 s_1.N,.string (bs s_1.Name),.int .i64 s_1.X.Op,.int .i64 s_1.X.Type_,.int .i64 s_1.X.N,.int .i64 s_1.X.Slot,.string (bs s_1.X.S),s_1_X_Argsv,s_1_Bodyv,s_1_Elsev],.int .i64 known_2] [row m_0_l_v 3 (m_0.l_.map z6.enc),box m_0b [m_0_l_v],nro s_1_X_Argsv zE s_1.X.Args,nro s_1_Bodyv zx s_1.Body,nro s_1_Elsev zx s_1.Else] (fun v G=>∃ v0,v = .tuple #[]∧G=[row v0 3 (r.l_.map z6.enc),box m_0b [v0]])):=⟨Tryz.call57,by
 intros; rename_i h; unfold z1Y at h
 exact dfn (.d [0,1,2,3,4,5,6,7,8,9,10,11,12] [12] [.t,.t,.t,.t,.t,.t,.t,.t,.t,.f,.f,.t,.f] [] .e) Tryz.func57 Tryz.ntmps57 Tryz.results57 h⟩
instance wire_list_string_68_k:Con Tryz.prog 68 0 (∀ {n:Nat} {l_0:(List (List UInt8))} {l_0v:Value} {r:(List UInt8)},z4G n l_0=some r→Meets Tryz.prog 68 [l_0v,.func (.func 69) #[] #[]] [ro l_0v 1 (l_0.map eStr)] (fun v G=>∃ v0,v=v0∧G=[row v0 1 (r.map eB8)])):=⟨Tryz.call68,by
 intros; rename_i h; unfold z4G at h
 exact dfn (.j 1 [] [(5,.g 0)] [.w 0 0] (.l 1 [1,11,12] [(5,.g 0),(13,.t 2)] [.w 1 0,.k 0] .e) .e) Tryz.func68 Tryz.ntmps68 Tryz.results68 h⟩
instance wire_Ints_k:Con Tryz.prog 31 0 (∀ {n:Nat} {l_0:(List Int)} {l_0v:Value} {r:(List UInt8)},z84 n l_0=some r→Meets Tryz.prog 31 [l_0v] [ro l_0v 1 (l_0.map (eInt .i64))] (fun v G=>∃ v0,v=v0∧G=[row v0 1 (r.map eB8)])):=⟨Tryz.call31,by
 intros; rename_i h; unfold z84 at h
 exact dfn .e Tryz.func31 Tryz.ntmps31 Tryz.results31 h⟩
instance wire_GetBytes_k:Con Tryz.prog 61 0 (∀ {n:Nat} {b_0:(List UInt8)} {b_0v:Value} {r:(List UInt8)×Int×Int},z6o n b_0=some r→Meets Tryz.prog 61 [b_0v] [ro b_0v 1 (b_0.map eB8)] (fun v G=>v = .tuple #[.string (bs r.1),.int .i64 r.2.1,.int .i64 r.2.2]∧G=[])):=⟨Tryz.call61,by
 intros; rename_i h; unfold z6o at h
 exact dfn .e Tryz.func61 Tryz.ntmps61 Tryz.results61 h⟩
instance wire_get_int_62_k:Con Tryz.prog 62 0 (∀ {n:Nat} {b_0:(List UInt8)} {least_1:Int} {b_0v:Value} {r:(List Int)×Int×Int},z6g n b_0 least_1=some r→Meets Tryz.prog 62 [b_0v,.int .i64 least_1,.func (.func 63) #[] #[]] [ro b_0v 1 (b_0.map eB8)] (fun v G=>∃ v0,v = .tuple #[v0,.int .i64 r.2.1,.int .i64 r.2.2]∧G=[row v0 1 (r.1.map (eInt .i64))])):=⟨Tryz.call62,by
 intros; rename_i h; unfold z6g at h
 exact dfn (.c .e (.j 1 [] [(10,.t 1),(12,.g 0)] [.w 2 0] (.l 1 [0,2,26] [(10,.t 1),(12,.g 0),(27,.t 4)] [.w 3 0,.k 0] .e) .e)) Tryz.func62 Tryz.ntmps62 Tryz.results62 h⟩
instance compile_Check_1_64_k:Con Tryz.prog 64 0 (∀ {n:Nat} {at_0:Int} {t_1:zl} {a_2:(List (Int×zl))} {t_1_stack_v:Value} {t_1_slots_v:Value} {t_1_loops_v:Value} {a_2b:Nat} {a_2r:Nat} {r:Bool×(List (Int×zl))},z2c n at_0 t_1 a_2=some r→Meets Tryz.prog 64 [.int .i64 at_0,.agg #[t_1_stack_v,t_1_slots_v,t_1_loops_v],boxP a_2b 0] [ro t_1_stack_v 1 (t_1.stack_.map (eInt .i64)),ro t_1_slots_v 1 (t_1.slots_.map (eInt .i64)),ro t_1_loops_v 1 (t_1.loops_.map (eInt .i64)),nmap a_2r (fun n:Int=>Value.int .i64 n) z2O a_2,box a_2b [.map (some a_2r)]] (fun v G=>v = .bool r.1∧G=[nmap a_2r (fun n:Int=>Value.int .i64 n) z2O r.2,box a_2b [.map (some a_2r)]])):=⟨Tryz.call64,by
 intros; rename_i h; unfold z2c at h
 exact dfn .e Tryz.func64 Tryz.ntmps64 Tryz.results64 h⟩
end Go.Proofs.YtgjcniomhahgkaaGreatDoor
