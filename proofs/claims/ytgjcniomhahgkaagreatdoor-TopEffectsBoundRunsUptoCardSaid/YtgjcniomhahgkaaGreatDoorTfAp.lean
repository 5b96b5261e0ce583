/-
  The walks: ref20_SameOutcome, slices_Concat_byte_byte_29, slices_ContainsFunc_int_int_48, slices_Contains_int_int_50, slices_Contains_weirgate_api_Value_weirgate_api_Value_193, slices_IndexFunc_int_int_103_v2, slices_IndexFunc_weirgate_api_Header_weirgate_api_Header_114, slices_IndexFunc_weirgate_api_Header_we.
-/
import Derived.Test.YtgjcniomhahgkaaGreatDoorM11
import Derived.Test.YtgjcniomhahgkaaGreatDoorM9
import Derived.Test.YtgjcniomhahgkaaGreatDoorM14
import Derived.Test.YtgjcniomhahgkaaGreatDoorTfAo
set_option linter.unusedSimpArgs false
set_option linter.unusedVariables false
namespace Go.Proofs.YtgjcniomhahgkaaGreatDoor
open Go.Abs
set_option maxRecDepth 20000
set_option maxHeartbeats 2000000
instance weirgate_effect_way_or_150_k:Con Tryz.prog 150 0 (∀ {a_0:zJ} {b_1:zJ} {r:zJ},z2G a_0 b_1=some r→Meets Tryz.prog 150 [.agg #[.bool a_0.on_.is_,.int .i64 a_0.on_.lo_,.int .i64 a_0.on_.hi_,.bool a_0.end_.is_,.int .i64 a_0.end_.lo_,.int .i64 a_0.end_.hi_],.agg #[.bool b_1.on_.is_,.int .i64 b_1.on_.lo_,.int .i64 b_1.on_.hi_,.bool b_1.end_.is_,.int .i64 b_1.end_.lo_,.int .i64 b_1.end_.hi_]] [] (fun v G=>v = .agg #[.bool r.on_.is_,.int .i64 r.on_.lo_,.int .i64 r.on_.hi_,.bool r.end_.is_,.int .i64 r.end_.lo_,.int .i64 r.end_.hi_]∧G=[])):=⟨Tryz.call150,by
 intros; rename_i h; unfold z2G at h
 exact dfn (.d [0,1,2,3,5,6,7,8,4,9,10,11] [2] [.t,.t,.t,.t,.t,.t,.t,.t,.f,.f,.t,.f] [] .e) Tryz.func150 Tryz.ntmps150 Tryz.results150 h⟩
instance slices_Contains_weirgate_api_Value_weirgate_api_Value_193_k:Con Tryz.prog 193 0 (∀ {n:Nat} {s_0:(List zj)} {v_1:zj} {s_0v:Value} {r:Bool},z18 n s_0 v_1=some r→Meets Tryz.prog 193 [s_0v,.agg #[.int .i64 v_1.Type_,.int .i64 v_1.N,.string (bs v_1.S)]] [ro s_0v 3 (s_0.map zj.enc)] (fun v G=>v = .bool r∧G=[])):=⟨Tryz.call193,by
 intros; rename_i h; unfold z18 at h
 exact dfn .e Tryz.func193 Tryz.ntmps193 Tryz.results193 h⟩
instance slices_Contains_int_int_50_k:Con Tryz.prog 50 0 (∀ {n:Nat} {s_0:(List Int)} {v_1:Int} {s_0v:Value} {r:Bool},z14 n s_0 v_1=some r→Meets Tryz.prog 50 [s_0v,.int .i64 v_1] [ro s_0v 1 (s_0.map (eInt .i64))] (fun v G=>v = .bool r∧G=[])):=⟨Tryz.call50,by
 intros; rename_i h; unfold z14 at h
 exact dfn .e Tryz.func50 Tryz.ntmps50 Tryz.results50 h⟩
instance slices_IndexFunc_weirgate_api_Header_weirgate_api_Header_114_k:Con Tryz.prog 114 0 (∀ {n:Nat} {s_0:(List zp)} {f_1_0:z6} {s_0v:Value} {f_1_0b:Nat} {r:Int},zS n s_0 f_1_0=some r→Meets Tryz.prog 114 [s_0v,.func (.func 115) #[] #[boxP f_1_0b 0]] [ro s_0v 2 (s_0.map zp.enc),box f_1_0b [.int .i64 f_1_0.Op,.int .i64 f_1_0.A,.string (bs f_1_0.S)]] (fun v G=>v = .int .i64 r∧G=[box f_1_0b [.int .i64 f_1_0.Op,.int .i64 f_1_0.A,.string (bs f_1_0.S)]])):=⟨Tryz.call114,by
 intros; rename_i h; unfold zS at h
 exact dfn (.j 0 [] [] [.k 1] (.l 0 [0,1,7] [(8,.t 0)] [.k 0,.k 1] .e) .e) Tryz.func114 Tryz.ntmps114 Tryz.results114 h⟩
instance slices_IndexFunc_weirgate_api_Header_weirgate_api_Header_114_v1_k:Con Tryz.prog 114 1 (∀ {n:Nat} {s_0:(List zp)} {f_1_0:z6} {s_0v:Value} {f_1_0b:Nat} {r:Int},zV n s_0 f_1_0=some r→Meets Tryz.prog 114 [s_0v,.func (.func 117) #[] #[boxP f_1_0b 0]] [ro s_0v 2 (s_0.map zp.enc),box f_1_0b [.int .i64 f_1_0.Op,.int .i64 f_1_0.A,.string (bs f_1_0.S)]] (fun v G=>v = .int .i64 r∧G=[box f_1_0b [.int .i64 f_1_0.Op,.int .i64 f_1_0.A,.string (bs f_1_0.S)]])):=⟨Tryz.call114,by
 intros; rename_i h; unfold zV at h
 exact dfn (.j 0 [] [] [.k 1] (.l 0 [0,1,7] [(8,.t 0)] [.k 0,.k 1] .e) .e) Tryz.func114 Tryz.ntmps114 Tryz.results114 h⟩
instance slices_Concat_byte_byte_29_k:Con Tryz.prog 29 0 (∀ {n:Nat} {slices_0:(List (List UInt8))} {slices_0v:Value} {r:(List UInt8)},z2F n slices_0=some r→Meets Tryz.prog 29 [slices_0v] [nro slices_0v z7H slices_0] (fun v G=>∃ v0,v=v0∧G=[row v0 1 (r.map eB8)])):=⟨Tryz.call29,by
 intros; rename_i h; unfold z2F at h
 exact dfn (.j 0 [0] [(3,.t 0)] [.k 0] (.l 0 [0,9,10] [(3,.t 1),(11,.t 2)] [.k 0] .e) (.j 1 [] [(6,.g 0)] [.w 0 0] (.l 1 [25,26] [(6,.g 0),(27,.t 2)] [.w 1 0,.k 0] .e) .e)) Tryz.func29 Tryz.ntmps29 Tryz.results29 h⟩
instance slices_IndexFunc_int_int_103_v2_k:Con Tryz.prog 103 2 (∀ {n:Nat} {s_0:(List Int)} {f_1_0:Int} {s_0v:Value} {f_1_0b:Nat} {r:Int},z25 n s_0 f_1_0=some r→Meets Tryz.prog 103 [s_0v,.func (.func 153) #[] #[boxP f_1_0b 0]] [ro s_0v 1 (s_0.map (eInt .i64)),box f_1_0b [.int .i64 f_1_0]] (fun v G=>v = .int .i64 r∧G=[box f_1_0b [.int .i64 f_1_0]])):=⟨Tryz.call103,by
 intros; rename_i h; unfold z25 at h
 exact dfn (.j 0 [] [] [.k 1] (.l 0 [0,1,7] [(8,.t 0)] [.k 0,.k 1] .e) .e) Tryz.func103 Tryz.ntmps103 Tryz.results103 h⟩
instance ref20_SameOutcome_k:Con Tryz.prog 16 0 (∀ {n:Nat} {a_0:zA} {b_1:zA} {a_0_Edge_Headersv:Value} {a_0_Logsv:Value} {b_1_Edge_Headersv:Value} {b_1_Logsv:Value} {r:Bool},z4B n a_0 b_1=some r→Meets Tryz.prog 16 [.agg #[a_0_Edge_Headersv,.int .i64 a_0.Edge.Status,a_0_Logsv,.int .i64 a_0.End,.string (bs a_0.Text)],.agg #[b_1_Edge_Headersv,.int .i64 b_1.Edge.Status,b_1_Logsv,.int .i64 b_1.End,.string (bs b_1.Text)]] [ro a_0_Edge_Headersv 2 (a_0.Edge.Headers.map zp.enc),ro a_0_Logsv 1 (a_0.Logs.map eStr),ro b_1_Edge_Headersv 2 (b_1.Edge.Headers.map zp.enc),ro b_1_Logsv 1 (b_1.Logs.map eStr)] (fun v G=>v = .bool r∧G=[])):=⟨Tryz.call16,by
 intros; rename_i h; unfold z4B at h
 exact dfn (.c .e (.j 0 [] [] [] (.l 0 [2,3] [(5,.t 0)] [.k 4,.k 0,.k 1,.k 5,.k 2,.k 3] .e) .e)) Tryz.func16 Tryz.ntmps16 Tryz.results16 h⟩
instance slices_ContainsFunc_int_int_48_k:Con Tryz.prog 48 0 (∀ {n:Nat} {s_0:(List Int)} {f_1_0:Int} {s_0v:Value} {f_1_0b:Nat} {r:Bool},z2J n s_0 f_1_0=some r→Meets Tryz.prog 48 [s_0v,.func (.func 286) #[] #[boxP f_1_0b 0]] [ro s_0v 1 (s_0.map (eInt .i64)),box f_1_0b [.int .i64 f_1_0]] (fun v G=>v = .bool r∧G=[box f_1_0b [.int .i64 f_1_0]])):=⟨Tryz.call48,by
 intros; rename_i h; unfold z2J at h
 exact dfn .e Tryz.func48 Tryz.ntmps48 Tryz.results48 h⟩
end Go.Proofs.YtgjcniomhahgkaaGreatDoor
