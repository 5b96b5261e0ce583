/-
  Texts that stand side by side: TfBt, TfBu, TfBv, TfAq.
-/
import Derived.Test.YtgjcniomhahgkaaGreatDoorM11
import Derived.Test.YtgjcniomhahgkaaGreatDoorM9
import Derived.Test.YtgjcniomhahgkaaGreatDoorTfBk
import Derived.Test.YtgjcniomhahgkaaGreatDoorTfBs
import Derived.Test.YtgjcniomhahgkaaGreatDoorTfAp
set_option linter.unusedSimpArgs false
set_option linter.unusedVariables false
namespace Go.Proofs.YtgjcniomhahgkaaGreatDoor
open Go.Abs
set_option maxRecDepth 20000
set_option maxHeartbeats 2000000
instance wire_Strings_k:Con Tryz.prog 30 0 (∀ {n:Nat} {l_0:(List (List UInt8))} {l_0v:Value} {r:(List UInt8)},z6T n l_0=some r→Meets Tryz.prog 30 [l_0v] [ro l_0v 1 (l_0.map eStr)] (fun v G=>∃ v0,v=v0∧G=[row v0 1 (r.map eB8)])):=⟨Tryz.call30,by
 intros; rename_i h; unfold z6T at h
 exact dfn .e Tryz.func30 Tryz.ntmps30 Tryz.results30 h⟩
instance wire_get_string_60_k:Con Tryz.prog 60 0 (∀ {n:Nat} {b_0:(List UInt8)} {least_1:Int} {b_0v:Value} {r:(List (List UInt8))×Int×Int},z4Y n b_0 least_1=some r→Meets Tryz.prog 60 [b_0v,.int .i64 least_1,.func (.func 61) #[] #[]] [ro b_0v 1 (b_0.map eB8)] (fun v G=>∃ v0,v = .tuple #[v0,.int .i64 r.2.1,.int .i64 r.2.2]∧G=[row v0 1 (r.1.map eStr)])):=⟨Tryz.call60,by
 intros; rename_i h; unfold z4Y at h
 exact dfn (.c .e (.j 1 [] [(10,.t 1),(12,.g 0)] [.w 2 0] (.l 1 [0,2,26] [(10,.t 1),(12,.g 0),(27,.t 4)] [.w 3 0,.k 0] .e) .e)) Tryz.func60 Tryz.ntmps60 Tryz.results60 h⟩
instance wire_GetInts_k:Con Tryz.prog 27 0 (∀ {n:Nat} {b_0:(List UInt8)} {b_0v:Value} {r:(List Int)×Int×Int},z6e n b_0=some r→Meets Tryz.prog 27 [b_0v] [ro b_0v 1 (b_0.map eB8)] (fun v G=>∃ v0,v = .tuple #[v0,.int .i64 r.2.1,.int .i64 r.2.2]∧G=[row v0 1 (r.1.map (eInt .i64))])):=⟨Tryz.call27,by
 intros; rename_i h; unfold z6e at h
 exact dfn .e Tryz.func27 Tryz.ntmps27 Tryz.results27 h⟩
instance weirgate_compile_types_operator_111_k:Con Tryz.prog 111 0 (∀ {n:Nat} {t_0:zl} {x_1:z6} {t_0_stack_v:Value} {t_0_slots_v:Value} {t_0_loops_v:Value} {r:zl×Bool},z1h n t_0 x_1=some r→Meets Tryz.prog 111 [.agg #[t_0_stack_v,t_0_slots_v,t_0_loops_v],.agg #[.int .i64 x_1.Op,.int .i64 x_1.A,.string (bs x_1.S)]] [ro t_0_stack_v 1 (t_0.stack_.map (eInt .i64)),ro t_0_slots_v 1 (t_0.slots_.map (eInt .i64)),ro t_0_loops_v 1 (t_0.loops_.map (eInt .i64))] (fun v G=>∃ v0 v1 v2,v = .tuple #[.agg #[v0,v1,v2],.bool r.2]∧G=[ro v0 1 (r.1.stack_.map (eInt .i64)),ro v1 1 (r.1.slots_.map (eInt .i64)),ro v2 1 (r.1.loops_.map (eInt .i64))])):=⟨Tryz.call111,by
 intros; rename_i h; unfold z1h at h
 exact dfn (.j 0 [2,3,4] [(6,.t 0)] [.k 3,.k 0,.k 1,.k 2,.k 4,.k 5] (.c (.d [0,1,2,3,4,5,6,7,8] [5] [.t,.t,.t,.f,.f,.t,.t,.f,.t] [] .e) .e) (.c .e (.c .e (.d [0,1,2,3,4,5,6,7,8,9] [5] [.t,.t,.t,.t,.f,.f,.t,.t,.f,.t] [] .e)))) Tryz.func111 Tryz.ntmps111 Tryz.results111 h⟩
instance compile_Compile_k:Con Tryz.prog 10 0 (∀ {n:Nat} {p_0:zG} {p_0_Effectsv:Value} {p_0_Codev:Value} {r:zH×Int},z36 n p_0=some r→Meets Tryz.prog 10 [.agg #[.string (bs p_0.Name),p_0_Effectsv,p_0_Codev]] [ro p_0_Effectsv 1 (p_0.Effects.map (eInt .i64)),nro p_0_Codev zx p_0.Code] (fun v G=>∃ v0 v1,v = .tuple #[.agg #[.string (bs r.1.Name),v0,v1],.int .i64 r.2]∧G=[row v0 1 (r.1.Effects.map (eInt .i64)),row v1 3 (r.1.Code.map z6.enc)])):=⟨Tryz.call10,by
 intros; rename_i h; unfold z36 at h
 exact dfn (.c .e (.d [0,1,3,4,6,7,2,5,8,9,10] [3] [.t,.t,.t,.t,.t,.t,.f,.f,.f,.f,.t] [] .e)) Tryz.func10 Tryz.ntmps10 Tryz.results10 h⟩
end Go.Proofs.YtgjcniomhahgkaaGreatDoor
namespace Go.Proofs.YtgjcniomhahgkaaGreatDoor
open Go.Abs
set_option maxRecDepth 20000
set_option maxHeartbeats 2000000
instance compile_Encode_k:Con Tryz.prog 12 0 (∀ {n:Nat} {m_0:zH} {m_0_Effectsv:Value} {m_0_Codev:Value} {r:(List UInt8)},z4s n m_0=some r→Meets Tryz.prog 12 [.agg #[.string (bs m_0.Name),m_0_Effectsv,m_0_Codev]] [ro m_0_Effectsv 1 (m_0.Effects.map (eInt .i64)),ro m_0_Codev 3 (m_0.Code.map z6.enc)] (fun v G=>∃ v0,v=v0∧G=[row v0 1 (r.map eB8)])):=⟨Tryz.call12,by
 intros; rename_i h; unfold z4s at h
 exact dfn (.j 2 [1] [(3,.g 1),(4,.g 2)] [.w 1 1,.w 2 2,.k 2,.k 0,.k 1] (.l 2 [1,11,12] [(3,.g 1),(4,.g 2),(13,.t 4)] [.w 1 1,.w 3 2,.k 2,.k 0,.k 1] (.c (.q (.f 0 (.f 1 (.f 2 (.f 5 (.f 6 (.f 7 (.f 8 (.f 9 (.b 3 (.b 4 (.o 10 (.o 11 (.f 12 (.f 13 .z)))) (.o 10 (.o 4 (.o 11 (.f 12 (.f 13 .z)))))) (.o 10 (.o 3 (.o 4 (.o 11 (.f 12 (.f 13 .z))))))))))))))) [0,1] [] .e) .e)) (.d [0,2,3,5,1,4,6,7,8,9] [] [.t,.t,.t,.t,.f,.f,.f,.f,.f,.t] [] .e)) Tryz.func12 Tryz.ntmps12 Tryz.results12 h⟩
end Go.Proofs.YtgjcniomhahgkaaGreatDoor
namespace Go.Proofs.YtgjcniomhahgkaaGreatDoor
open Go.Abs
set_option maxRecDepth 20000
set_option maxHeartbeats 2000000
instance wire_GetStrings_k:Con Tryz.prog 26 0 (∀ {n:Nat} {b_0:(List UInt8)} {b_0v:Value} {r:(List (List UInt8))×Int×Int},z5k n b_0=some r→Meets Tryz.prog 26 [b_0v] [ro b_0v 1 (b_0.map eB8)] (fun v G=>∃ v0,v = .tuple #[v0,.int .i64 r.2.1,.int .i64 r.2.2]∧G=[row v0 1 (r.1.map eStr)])):=⟨Tryz.call26,by
 intros; rename_i h; unfold z5k at h
 exact dfn .e Tryz.func26 Tryz.ntmps26 Tryz.results26 h⟩
end Go.Proofs.YtgjcniomhahgkaaGreatDoor
namespace Go.Proofs.YtgjcniomhahgkaaGreatDoor
open Go.Abs
set_option maxRecDepth 20000
set_option maxHeartbeats 2000000
instance typing_all_k:Con Tryz.prog 274 0 (∀ {n:Nat} {l_0:(List Int)} {kind_1:Int} {l_0v:Value} {r:Bool},z6R n l_0 kind_1=some r→Meets Tryz.prog 274 [l_0v,.int .i64 kind_1] [ro l_0v 1 (l_0.map (eInt .i64))] (fun v G=>v = .bool r∧G=[])):=⟨Tryz.call274,by
 intros; rename_i h; unfold z6R at h
 exact dfn .e Tryz.func274 Tryz.ntmps274 Tryz.results274 h⟩
instance typing_table_1_1_273_k:Con Tryz.prog 273 0 (∀ {n:Nat} {l_0:(List Int)} {a_1:Int} {a_2:Int} {l_0v:Value} {a_1b:Nat} {a_2b:Nat} {r:Int},zI n l_0 a_1 a_2=some r→Meets Tryz.prog 273 [l_0v,boxP a_1b 0,boxP a_2b 0] [ro l_0v 1 (l_0.map (eInt .i64)),box a_1b [.int .i64 a_1],box a_2b [.int .i64 a_2]] (fun v G=>v = .int .i64 r∧G=[box a_1b [.int .i64 a_1],box a_2b [.int .i64 a_2]])):=⟨Tryz.call273,by
 intros; rename_i h; unfold zI at h
 exact dfn .e Tryz.func273 Tryz.ntmps273 Tryz.results273 h⟩
instance typing_table_2_275_k:Con Tryz.prog 275 0 (∀ {n:Nat} {l_0:(List Int)} {l_0v:Value} {r:Int},z2s n l_0=some r→Meets Tryz.prog 275 [l_0v] [ro l_0v 1 (l_0.map (eInt .i64))] (fun v G=>v = .int .i64 r∧G=[])):=⟨Tryz.call275,by
 intros; rename_i h; unfold z2s at h
 exact dfn .e Tryz.func275 Tryz.ntmps275 Tryz.results275 h⟩
instance typing_table_4_277_k:Con Tryz.prog 277 0 (∀ {n:Nat} {l_0:(List Int)} {l_0v:Value} {r:Int},z1l n l_0=some r→Meets Tryz.prog 277 [l_0v] [ro l_0v 1 (l_0.map (eInt .i64))] (fun v G=>v = .int .i64 r∧G=[])):=⟨Tryz.call277,by
 intros; rename_i h; unfold z1l at h
 exact dfn .e Tryz.func277 Tryz.ntmps277 Tryz.results277 h⟩
instance typing_table_3_276_k:Con Tryz.prog 276 0 (∀ {n:Nat} {l_0:(List Int)} {l_0v:Value} {a_1b:Nat} {r:Int},z11 n l_0=some r→Meets Tryz.prog 276 [l_0v,boxP a_1b 0] [ro l_0v 1 (l_0.map (eInt .i64)),box a_1b [.func (.func 275) #[] #[]]] (fun v G=>v = .int .i64 r∧G=[box a_1b [.func (.func 275) #[] #[]]])):=⟨Tryz.call276,by
 intros; rename_i h; unfold z11 at h
 exact dfn .e Tryz.func276 Tryz.ntmps276 Tryz.results276 h⟩
end Go.Proofs.YtgjcniomhahgkaaGreatDoor
