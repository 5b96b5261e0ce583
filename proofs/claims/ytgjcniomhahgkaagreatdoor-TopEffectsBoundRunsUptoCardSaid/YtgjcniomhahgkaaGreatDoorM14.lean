/-
  Texts that stand side by side: TfAd, TfAn.
-/
import Derived.Test.YtgjcniomhahgkaaGreatDoorM11
import Derived.Test.YtgjcniomhahgkaaGreatDoorM9
import Derived.Test.YtgjcniomhahgkaaGreatDoorTfAc
set_option linter.unusedSimpArgs false
set_option linter.unusedVariables false
namespace Go.Proofs.YtgjcniomhahgkaaGreatDoor
open Go.Abs
set_option maxRecDepth 20000
set_option maxHeartbeats 2000000
instance effect_exactly_k:Con Tryz.prog 105 0 (∀ {n_0:Int} {r:zD},z2I n_0=some r→Meets Tryz.prog 105 [.int .i64 n_0] [] (fun v G=>v = .agg #[.bool r.is_,.int .i64 r.lo_,.int .i64 r.hi_]∧G=[])):=⟨Tryz.call105,by
 intros; rename_i h; unfold z2I at h
 exact dfn .e Tryz.func105 Tryz.ntmps105 Tryz.results105 h⟩
instance effect_within_int_190_k:Con Tryz.prog 190 0 (∀ {x_0:Int} {limit_1:Int} {r:Int},z3X x_0 limit_1=some r→Meets Tryz.prog 190 [.int .i64 x_0,.int .i64 limit_1] [] (fun v G=>v = .int .i64 r∧G=[])):=⟨Tryz.call190,by
 intros; rename_i h; unfold z3X at h
 exact dfn .e Tryz.func190 Tryz.ntmps190 Tryz.results190 h⟩
instance weirgate_effect_costs_or_52_k:Con Tryz.prog 52 0 (∀ {a_0:zD} {b_1:zD} {r:zD},z1o a_0 b_1=some r→Meets Tryz.prog 52 [.agg #[.bool a_0.is_,.int .i64 a_0.lo_,.int .i64 a_0.hi_],.agg #[.bool b_1.is_,.int .i64 b_1.lo_,.int .i64 b_1.hi_]] [] (fun v G=>v = .agg #[.bool r.is_,.int .i64 r.lo_,.int .i64 r.hi_]∧G=[])):=⟨Tryz.call52,by
 intros; rename_i h; unfold z1o at h
 exact dfn .e Tryz.func52 Tryz.ntmps52 Tryz.results52 h⟩
instance effect_checked_k:Con Tryz.prog 24 0 (∀ {n_0:Int} {r:Int×Int},z4b n_0=some r→Meets Tryz.prog 24 [.int .i64 n_0] [] (fun v G=>v = .tuple #[.int .i64 r.1,.int .i64 r.2]∧G=[])):=⟨Tryz.call24,by
 intros; rename_i h; unfold z4b at h
 exact dfn .e Tryz.func24 Tryz.ntmps24 Tryz.results24 h⟩
instance slices_Clone_weirgate_api_Header_weirgate_api_Header_37_k:Con Tryz.prog 37 0 (∀ {s_0:(List zp)} {s_0v:Value} {r:(List zp)},zQ s_0=some r→Meets Tryz.prog 37 [s_0v] [ro s_0v 2 (s_0.map zp.enc)] (fun v G=>∃ v0,v=v0∧G=[row v0 2 (r.map zp.enc)])):=⟨Tryz.call37,by
 intros; rename_i h; unfold zQ at h
 exact dfn .e Tryz.func37 Tryz.ntmps37 Tryz.results37 h⟩
instance slices_Clone_weirgate_api_Value_weirgate_api_Value_72_k:Con Tryz.prog 72 0 (∀ {s_0:(List zj)} {s_0v:Value} {r:(List zj)},zR s_0=some r→Meets Tryz.prog 72 [s_0v] [ro s_0v 3 (s_0.map zj.enc)] (fun v G=>∃ v0,v=v0∧G=[row v0 3 (r.map zj.enc)])):=⟨Tryz.call72,by
 intros; rename_i h; unfold zR at h
 exact dfn .e Tryz.func72 Tryz.ntmps72 Tryz.results72 h⟩
instance slices_Clone_string_string_74_k:Con Tryz.prog 74 0 (∀ {s_0:(List (List UInt8))} {s_0v:Value} {r:(List (List UInt8))},z2U s_0=some r→Meets Tryz.prog 74 [s_0v] [ro s_0v 1 (s_0.map eStr)] (fun v G=>∃ v0,v=v0∧G=[row v0 1 (r.map eStr)])):=⟨Tryz.call74,by
 intros; rename_i h; unfold z2U at h
 exact dfn .e Tryz.func74 Tryz.ntmps74 Tryz.results74 h⟩
instance slices_Index_weirgate_api_Value_weirgate_api_Value_236_k:Con Tryz.prog 236 0 (∀ {n:Nat} {s_0:(List zj)} {v_1:zj} {s_0v:Value} {r:Int},zZ n s_0 v_1=some r→Meets Tryz.prog 236 [s_0v,.agg #[.int .i64 v_1.Type_,.int .i64 v_1.N,.string (bs v_1.S)]] [ro s_0v 3 (s_0.map zj.enc)] (fun v G=>v = .int .i64 r∧G=[])):=⟨Tryz.call236,by
 intros; rename_i h; unfold zZ at h
 exact dfn (.j 0 [] [] [] (.l 0 [0,3,7] [(8,.t 0)] [.k 0,.k 1] .e) .e) Tryz.func236 Tryz.ntmps236 Tryz.results236 h⟩
instance slices_Index_int_int_104_k:Con Tryz.prog 104 0 (∀ {n:Nat} {s_0:(List Int)} {v_1:Int} {s_0v:Value} {r:Int},z3d n s_0 v_1=some r→Meets Tryz.prog 104 [s_0v,.int .i64 v_1] [ro s_0v 1 (s_0.map (eInt .i64))] (fun v G=>v = .int .i64 r∧G=[])):=⟨Tryz.call104,by
 intros; rename_i h; unfold z3d at h
 exact dfn (.j 0 [] [] [] (.l 0 [0,1,7] [(8,.t 0)] [.k 0] .e) .e) Tryz.func104 Tryz.ntmps104 Tryz.results104 h⟩
instance slices_Grow_byte_byte_67_k:Con Tryz.prog 67 0 (∀ {n_1:Int} {r:(List UInt8)},z3b n_1=some r→Meets Tryz.prog 67 [.slice none 0 0,.int .i64 n_1] [] (fun v G=>∃ v0,v=v0∧G=[row v0 1 (r.map eB8)])):=⟨Tryz.call67,by
 intros; rename_i h; unfold z3b at h
 exact dfn (.c .e (.j 1 [] [(0,.g 0)] [.w 0 0] (.c (.s .e) .e) .e)) Tryz.func67 Tryz.ntmps67 Tryz.results67 h⟩
instance slices_Equal_int_int_110_k:Con Tryz.prog 110 0 (∀ {n:Nat} {s1_0:(List Int)} {s2_1:(List Int)} {s1_0v:Value} {s2_1v:Value} {r:Bool},z1z n s1_0 s2_1=some r→Meets Tryz.prog 110 [s1_0v,s2_1v] [ro s1_0v 1 (s1_0.map (eInt .i64)),ro s2_1v 1 (s2_1.map (eInt .i64))] (fun v G=>v = .bool r∧G=[])):=⟨Tryz.call110,by
 intros; rename_i h; unfold z1z at h
 exact dfn (.c .e (.j 0 [] [] [] (.l 0 [0,1,12] [(13,.t 0)] [.k 0,.k 1] .e) .e)) Tryz.func110 Tryz.ntmps110 Tryz.results110 h⟩
instance ref20_same_k:Con Tryz.prog 38 0 (∀ {n:Nat} {a_0:(List (List UInt8))} {b_1:(List (List UInt8))} {a_0v:Value} {b_1v:Value} {r:Bool},z7P n a_0 b_1=some r→Meets Tryz.prog 38 [a_0v,b_1v] [ro a_0v 1 (a_0.map eStr),ro b_1v 1 (b_1.map eStr)] (fun v G=>v = .bool r∧G=[])):=⟨Tryz.call38,by
 intros; rename_i h; unfold z7P at h
 exact dfn (.c .e (.j 0 [] [] [] (.l 0 [0,1] [(5,.t 0)] [.k 0,.k 1] .e) .e)) Tryz.func38 Tryz.ntmps38 Tryz.results38 h⟩
instance top_languageHas_k:Con Tryz.prog 18 0 (∀ {n:Nat} {l_0:(List Int)} {n_1:Int} {l_0v:Value} {r:Bool},z1S n l_0 n_1=some r→Meets Tryz.prog 18 [l_0v,.int .i64 n_1] [ro l_0v 1 (l_0.map (eInt .i64))] (fun v G=>v = .bool r∧G=[])):=⟨Tryz.call18,by
 intros; rename_i h; unfold z1S at h
 exact dfn (.j 0 [] [] [] (.l 0 [1,7,8] [(9,.t 0)] [.k 0] .e) .e) Tryz.func18 Tryz.ntmps18 Tryz.results18 h⟩
instance slices_IndexFunc_int_int_103_k:Con Tryz.prog 103 0 (∀ {n:Nat} {s_0:(List Int)} {f_1_0:Int} {s_0v:Value} {f_1_0b:Nat} {r:Int},z3c n s_0 f_1_0=some r→Meets Tryz.prog 103 [s_0v,.func (.func 286) #[] #[boxP f_1_0b 0]] [ro s_0v 1 (s_0.map (eInt .i64)),box f_1_0b [.int .i64 f_1_0]] (fun v G=>v = .int .i64 r∧G=[box f_1_0b [.int .i64 f_1_0]])):=⟨Tryz.call103,by
 intros; rename_i h; unfold z3c at h
 exact dfn (.j 0 [] [] [.k 1] (.l 0 [0,1,7] [(8,.t 0)] [.k 0,.k 1] .e) .e) Tryz.func103 Tryz.ntmps103 Tryz.results103 h⟩
end Go.Proofs.YtgjcniomhahgkaaGreatDoor
namespace Go.Proofs.YtgjcniomhahgkaaGreatDoor
open Go.Abs
set_option maxRecDepth 20000
set_option maxHeartbeats 2000000
instance weirgate_machine_run_step_75_k:Con Tryz.prog 75 0 (∀ {r_0:zi} {a_1:z6} {r_0b:Nat} {r_0_Cpu_Stackv:Value} {r_0_Cpu_Slotsv:Value} {r_0_Cpu_Loopsv:Value} {r_0_Cpu_Out_Edge_Headersv:Value} {r_0_Cpu_Out_Logsv:Value} {r_0_code_v:Value} {r:Unit},z44 r_0 a_1=some r→Meets Tryz.prog 75 [boxP r_0b 0,.agg #[.int .i64 a_1.Op,.int .i64 a_1.A,.string (bs a_1.S)]] [row r_0_Cpu_Stackv 3 (r_0.Cpu.Stack.map zj.enc),row r_0_Cpu_Slotsv 3 (r_0.Cpu.Slots.map zj.enc),row r_0_Cpu_Loopsv 1 (r_0.Cpu.Loops.map (eInt .i64)),row r_0_Cpu_Out_Edge_Headersv 2 (r_0.Cpu.Out.Edge.Headers.map zp.enc),row r_0_Cpu_Out_Logsv 1 (r_0.Cpu.Out.Logs.map eStr),ro r_0_code_v 3 (r_0.code_.map z6.enc),box r_0b [.int .i64 r_0.Cpu.At,r_0_Cpu_Stackv,r_0_Cpu_Slotsv,r_0_Cpu_Loopsv,r_0_Cpu_Out_Edge_Headersv,.int .i64 r_0.Cpu.Out.Edge.Status,r_0_Cpu_Out_Logsv,.int .i64 r_0.Cpu.Out.End,.string (bs r_0.Cpu.Out.Text),.int .i64 r_0.Cpu.Spent,.bool r_0.Cpu.Over,.int .i64 r_0.Cpu.E,r_0_code_v]] (fun v G=>v = .tuple #[]∧G=[row r_0_Cpu_Stackv 3 (r_0.Cpu.Stack.map zj.enc),row r_0_Cpu_Slotsv 3 (r_0.Cpu.Slots.map zj.enc),row r_0_Cpu_Loopsv 1 (r_0.Cpu.Loops.map (eInt .i64)),row r_0_Cpu_Out_Edge_Headersv 2 (r_0.Cpu.Out.Edge.Headers.map zp.enc),row r_0_Cpu_Out_Logsv 1 (r_0.Cpu.Out.Logs.map eStr),box r_0b [.int .i64 r_0.Cpu.At,r_0_Cpu_Stackv,r_0_Cpu_Slotsv,r_0_Cpu_Loopsv,r_0_Cpu_Out_Edge_Headersv,.int .i64 r_0.Cpu.Out.Edge.Status,r_0_Cpu_Out_Logsv,.int .i64 r_0.Cpu.Out.End,.string (bs r_0.Cpu.Out.Text),.int .i64 r_0.Cpu.Spent,.bool r_0.Cpu.Over,.int .i64 r_0.Cpu.E,r_0_code_v]])):=⟨Tryz.call75,by
 intros; rename_i h; unfold z44 at h
 exact dfn .e Tryz.func75 Tryz.ntmps75 Tryz.results75 h⟩
instance weirgate_machine_run_pop_113_k:Con Tryz.prog 113 0 (∀ {r_0:zi} {r_0b:Nat} {r_0_Cpu_Stackv:Value} {r_0_Cpu_Slotsv:Value} {r_0_Cpu_Loopsv:Value} {r_0_Cpu_Out_Edge_Headersv:Value} {r_0_Cpu_Out_Logsv:Value} {r_0_code_v:Value} {r:zj×zi},z1a r_0=some r→Meets Tryz.prog 113 [boxP r_0b 0] [row r_0_Cpu_Stackv 3 (r_0.Cpu.Stack.map zj.enc),row r_0_Cpu_Slotsv 3 (r_0.Cpu.Slots.map zj.enc),row r_0_Cpu_Loopsv 1 (r_0.Cpu.Loops.map (eInt .i64)),row r_0_Cpu_Out_Edge_Headersv 2 (r_0.Cpu.Out.Edge.Headers.map zp.enc),row r_0_Cpu_Out_Logsv 1 (r_0.Cpu.Out.Logs.map eStr),ro r_0_code_v 3 (r_0.code_.map z6.enc),box r_0b [.int .i64 r_0.Cpu.At,r_0_Cpu_Stackv,r_0_Cpu_Slotsv,r_0_Cpu_Loopsv,r_0_Cpu_Out_Edge_Headersv,.int .i64 r_0.Cpu.Out.Edge.Status,r_0_Cpu_Out_Logsv,.int .i64 r_0.Cpu.Out.End,.string (bs r_0.Cpu.Out.Text),.int .i64 r_0.Cpu.Spent,.bool r_0.Cpu.Over,.int .i64 r_0.Cpu.E,r_0_code_v]] (fun v G=>∃ v0 v1 v2 v3 v4 v5,v = .agg #[.int .i64 r.1.Type_,.int .i64 r.1.N,.string (bs r.1.S)]∧G=[row v0 3 (r.2.Cpu.Stack.map zj.enc),row v1 3 (r.2.Cpu.Slots.map zj.enc),row v2 1 (r.2.Cpu.Loops.map (eInt .i64)),row v3 2 (r.2.Cpu.Out.Edge.Headers.map zp.enc),row v4 1 (r.2.Cpu.Out.Logs.map eStr),ro v5 3 (r.2.code_.map z6.enc),box r_0b [.int .i64 r.2.Cpu.At,v0,v1,v2,v3,.int .i64 r.2.Cpu.Out.Edge.Status,v4,.int .i64 r.2.Cpu.Out.End,.string (bs r.2.Cpu.Out.Text),.int .i64 r.2.Cpu.Spent,.bool r.2.Cpu.Over,.int .i64 r.2.Cpu.E,v5]])):=⟨Tryz.call113,by
 intros; rename_i h; unfold z1a at h
 exact dfn .e Tryz.func113 Tryz.ntmps113 Tryz.results113 h⟩
instance weirgate_machine_run_header_1_115_k:Con Tryz.prog 115 0 (∀ {h_0:zp} {a_1:z6} {a_1b:Nat} {r:Bool},z2n h_0 a_1=some r→Meets Tryz.prog 115 [.agg #[.string (bs h_0.Name),.string (bs h_0.Value)],boxP a_1b 0] [box a_1b [.int .i64 a_1.Op,.int .i64 a_1.A,.string (bs a_1.S)]] (fun v G=>v = .bool r∧G=[box a_1b [.int .i64 a_1.Op,.int .i64 a_1.A,.string (bs a_1.S)]])):=⟨Tryz.call115,by
 intros; rename_i h; unfold z2n at h
 exact dfn .e Tryz.func115 Tryz.ntmps115 Tryz.results115 h⟩
instance weirgate_machine_run_header_2_117_k:Con Tryz.prog 117 0 (∀ {h_0:zp} {a_1:z6} {a_1b:Nat} {r:Bool},z1W h_0 a_1=some r→Meets Tryz.prog 117 [.agg #[.string (bs h_0.Name),.string (bs h_0.Value)],boxP a_1b 0] [box a_1b [.int .i64 a_1.Op,.int .i64 a_1.A,.string (bs a_1.S)]] (fun v G=>v = .bool r∧G=[box a_1b [.int .i64 a_1.Op,.int .i64 a_1.A,.string (bs a_1.S)]])):=⟨Tryz.call117,by
 intros; rename_i h; unfold z1W at h
 exact dfn .e Tryz.func117 Tryz.ntmps117 Tryz.results117 h⟩
instance weirgate_machine_run_jump_82_k:Con Tryz.prog 82 0 (∀ {r_0:zi} {x_1:z6} {r_0b:Nat} {r_0_Cpu_Stackv:Value} {r_0_Cpu_Slotsv:Value} {r_0_Cpu_Loopsv:Value} {r_0_Cpu_Out_Edge_Headersv:Value} {r_0_Cpu_Out_Logsv:Value} {r_0_code_v:Value} {r:zi},z3h r_0 x_1=some r→Meets Tryz.prog 82 [boxP r_0b 0,.agg #[.int .i64 x_1.Op,.int .i64 x_1.A,.string (bs x_1.S)]] [row r_0_Cpu_Stackv 3 (r_0.Cpu.Stack.map zj.enc),row r_0_Cpu_Slotsv 3 (r_0.Cpu.Slots.map zj.enc),row r_0_Cpu_Loopsv 1 (r_0.Cpu.Loops.map (eInt .i64)),row r_0_Cpu_Out_Edge_Headersv 2 (r_0.Cpu.Out.Edge.Headers.map zp.enc),row r_0_Cpu_Out_Logsv 1 (r_0.Cpu.Out.Logs.map eStr),ro r_0_code_v 3 (r_0.code_.map z6.enc),box r_0b [.int .i64 r_0.Cpu.At,r_0_Cpu_Stackv,r_0_Cpu_Slotsv,r_0_Cpu_Loopsv,r_0_Cpu_Out_Edge_Headersv,.int .i64 r_0.Cpu.Out.Edge.Status,r_0_Cpu_Out_Logsv,.int .i64 r_0.Cpu.Out.End,.string (bs r_0.Cpu.Out.Text),.int .i64 r_0.Cpu.Spent,.bool r_0.Cpu.Over,.int .i64 r_0.Cpu.E,r_0_code_v]] (fun v G=>∃ v0 v1 v2 v3 v4 v5,v = .tuple #[]∧G=[row v0 3 (r.Cpu.Stack.map zj.enc),row v1 3 (r.Cpu.Slots.map zj.enc),row v2 1 (r.Cpu.Loops.map (eInt .i64)),row v3 2 (r.Cpu.Out.Edge.Headers.map zp.enc),row v4 1 (r.Cpu.Out.Logs.map eStr),ro v5 3 (r.code_.map z6.enc),box r_0b [.int .i64 r.Cpu.At,v0,v1,v2,v3,.int .i64 r.Cpu.Out.Edge.Status,v4,.int .i64 r.Cpu.Out.End,.string (bs r.Cpu.Out.Text),.int .i64 r.Cpu.Spent,.bool r.Cpu.Over,.int .i64 r.Cpu.E,v5]])):=⟨Tryz.call82,by
 intros; rename_i h; unfold z3h at h
 exact dfn .e Tryz.func82 Tryz.ntmps82 Tryz.results82 h⟩
end Go.Proofs.YtgjcniomhahgkaaGreatDoor
