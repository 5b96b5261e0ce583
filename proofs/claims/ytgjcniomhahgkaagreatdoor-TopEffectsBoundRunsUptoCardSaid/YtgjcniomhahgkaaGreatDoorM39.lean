/-
  Texts that stand side by side: TfAm, TfBb, TfBe, TfBd.
-/
import Derived.Test.YtgjcniomhahgkaaGreatDoorM11
import Derived.Test.YtgjcniomhahgkaaGreatDoorM9
import Derived.Test.YtgjcniomhahgkaaGreatDoorM38
import Derived.Test.YtgjcniomhahgkaaGreatDoorM31
import Derived.Test.YtgjcniomhahgkaaGreatDoorM14
set_option linter.unusedSimpArgs false
set_option linter.unusedVariables false
namespace Go.Proofs.YtgjcniomhahgkaaGreatDoor
open Go.Abs
set_option maxRecDepth 20000
set_option maxHeartbeats 2000000
theorem z4P {n:Nat} {rec_weirgate_parser_reader_block_138:z8→Option ((List zB)×z8)} [Con Tryz.prog 138 9 (∀ {r_0:z8} {r_0b:Nat} {r_0_l_v:Value} {r:(List zB)×z8},rec_weirgate_parser_reader_block_138 r_0=some r→Meets Tryz.prog 138 [boxP r_0b 0] [ro r_0_l_v 3 (r_0.l_.map zo.enc),box r_0b [r_0_l_v,.int .i64 r_0.i_,.int .i64 r_0.at_]] (fun v G=>∃ v0 v1,v=v0∧G=[nrow v0 zF r.1,ro v1 3 (r.2.l_.map zo.enc),box r_0b [v1,.int .i64 r.2.i_,.int .i64 r.2.at_]]))]:∀ {r_0:z8} {r_0b:Nat} {r_0_l_v:Value} {r:(List zB)×z8},z2H n rec_weirgate_parser_reader_block_138 r_0=some r→Meets Tryz.prog 138 [boxP r_0b 0] [ro r_0_l_v 3 (r_0.l_.map zo.enc),box r_0b [r_0_l_v,.int .i64 r_0.i_,.int .i64 r_0.at_]] (fun v G=>∃ v0 v1,v=v0∧G=[nrow v0 zF r.1,ro v1 3 (r.2.l_.map zo.enc),box r_0b [v1,.int .i64 r.2.i_,.int .i64 r.2.at_]]):=by
 intros; rename_i h; unfold z2H at h
 exact dfn (.j 2 [] [(3,.g 1)] [.wn 1 1,.b 3 [.g 2,.t 5,.t 6],.o 3 2] (.l 2 [0] [(3,.g 1)] [.wn 1 1,.b 3 [.g 2,.t 5,.t 6],.o 3 2] .e) .e) Tryz.func138 Tryz.ntmps138 Tryz.results138 h
theorem z5y {n:Nat}:∀ {r_0:z8} {r_0b:Nat} {r_0_l_v:Value} {r:(List zB)×z8},z2v n  r_0=some r→Meets Tryz.prog 138 [boxP r_0b 0] [ro r_0_l_v 3 (r_0.l_.map zo.enc),box r_0b [r_0_l_v,.int .i64 r_0.i_,.int .i64 r_0.at_]] (fun v G=>∃ v0 v1,v=v0∧G=[nrow v0 zF r.1,ro v1 3 (r.2.l_.map zo.enc),box r_0b [v1,.int .i64 r.2.i_,.int .i64 r.2.at_]]):=by
 induction n with
 | zero=>intros; rename_i h; cases h
 | succ n ih=>exact @z4P n _ ⟨Tryz.call138,ih⟩
instance weirgate_parser_reader_block_138_k:Con Tryz.prog 138 0 (∀ {n:Nat} {r_0:z8} {r_0b:Nat} {r_0_l_v:Value} {r:(List zB)×z8},z2v n r_0=some r→Meets Tryz.prog 138 [boxP r_0b 0] [ro r_0_l_v 3 (r_0.l_.map zo.enc),box r_0b [r_0_l_v,.int .i64 r_0.i_,.int .i64 r_0.at_]] (fun v G=>∃ v0 v1,v=v0∧G=[nrow v0 zF r.1,ro v1 3 (r.2.l_.map zo.enc),box r_0b [v1,.int .i64 r.2.i_,.int .i64 r.2.at_]])):=⟨Tryz.call138,z5y⟩
instance weirgate_parser_reader_source_99_k:Con Tryz.prog 99 0 (∀ {n:Nat} {r_0:z8} {r_0b:Nat} {r_0_l_v:Value} {r:z2z×z8},z3y n r_0=some r→Meets Tryz.prog 99 [boxP r_0b 0] [ro r_0_l_v 3 (r_0.l_.map zo.enc),box r_0b [r_0_l_v,.int .i64 r_0.i_,.int .i64 r_0.at_]] (fun v G=>∃ v0 v1 v2,v = .agg #[v0,v1]∧G=[nrow v0 z3r r.1.Policies,nrow v1 z23 r.1.Programs,ro v2 3 (r.2.l_.map zo.enc),box r_0b [v2,.int .i64 r.2.i_,.int .i64 r.2.at_]])):=⟨Tryz.call99,by
 intros; rename_i h; unfold z3y at h
 exact dfn (.j 2 [2,3] [] [.k 2,.b 3 [.k,.g 1],.wn 1 1,.b 1 [.g 2,.t 5,.t 6],.o 3 2] (.l 2 [0,2,3] [] [.b 1 [.g 1,.t 3,.t 5],.o 1 1,.k 2,.b 3 [.k,.g 2],.wn 6 2] .e) .e) Tryz.func99 Tryz.ntmps99 Tryz.results99 h⟩
instance parser_read_weirgate_api_PSource_98_k:Con Tryz.prog 98 0 (∀ {n:Nat} {s_0:(List UInt8)} {r:z2z×z13},z2X n s_0=some r→Meets Tryz.prog 98 [.string (bs s_0),.func (.func 99) #[] #[]] [globA] (fun v G=>∃ v0 v1,v = .tuple #[.agg #[v0,v1],.agg #[.int .i64 r.2.At,.int .i64 r.2.E]]∧G=[nro v0 z3r r.1.Policies,nro v1 z23 r.1.Programs])):=⟨Tryz.call98,by
 intros; rename_i h; unfold z2X at h
 exact dfq .e Tryz.func98 Tryz.ntmps98 Tryz.results98 h⟩
instance parser_Parse_k:Con Tryz.prog 45 0 (∀ {n:Nat} {s_0:(List UInt8)} {r:z2z×z13},z8n n s_0=some r→Meets Tryz.prog 45 [.string (bs s_0)] [globA] (fun v G=>∃ v0 v1,v = .tuple #[.agg #[v0,v1],.agg #[.int .i64 r.2.At,.int .i64 r.2.E]]∧G=[nro v0 z3r r.1.Policies,nro v1 z23 r.1.Programs])):=⟨Tryz.call45,by
 intros; rename_i h; unfold z8n at h
 exact dfn .e Tryz.func45 Tryz.ntmps45 Tryz.results45 h⟩
end Go.Proofs.YtgjcniomhahgkaaGreatDoor
namespace Go.Proofs.YtgjcniomhahgkaaGreatDoor
open Go.Abs
set_option maxRecDepth 20000
set_option maxHeartbeats 2000000
instance typing_Check_k:Con Tryz.prog 46 0 (∀ {n:Nat} {x_0:z2z} {x_0_Policiesv:Value} {x_0_Programsv:Value} {r:z62×z13},z8r n x_0=some r→Meets Tryz.prog 46 [.agg #[x_0_Policiesv,x_0_Programsv]] [nro x_0_Policiesv z3r x_0.Policies,nro x_0_Programsv z23 x_0.Programs,globA] (fun v G=>∃ v0 v1,v = .tuple #[.agg #[v0,v1],.agg #[.int .i64 r.2.At,.int .i64 r.2.E]]∧G=[nrow v0 z5l r.1.Policies,nrow v1 z4a r.1.Programs])):=⟨Tryz.call46,by
 intros; rename_i h; unfold z8r at h
 exact dfq .e Tryz.func46 Tryz.ntmps46 Tryz.results46 h⟩
end Go.Proofs.YtgjcniomhahgkaaGreatDoor
namespace Go.Proofs.YtgjcniomhahgkaaGreatDoor
open Go.Abs
set_option maxRecDepth 20000
set_option maxHeartbeats 2000000
instance machine_clone_k:Con Tryz.prog 32 0 (∀ {m_0:zH} {c_1:zN} {m_0_Effectsv:Value} {m_0_Codev:Value} {c_1_Stackv:Value} {c_1_Slotsv:Value} {c_1_Loopsv:Value} {c_1_Out_Edge_Headersv:Value} {c_1_Out_Logsv:Value} {r:zi},z6l m_0 c_1=some r→Meets Tryz.prog 32 [.agg #[.string (bs m_0.Name),m_0_Effectsv,m_0_Codev],.agg #[.int .i64 c_1.At,c_1_Stackv,c_1_Slotsv,c_1_Loopsv,c_1_Out_Edge_Headersv,.int .i64 c_1.Out.Edge.Status,c_1_Out_Logsv,.int .i64 c_1.Out.End,.string (bs c_1.Out.Text),.int .i64 c_1.Spent,.bool c_1.Over,.int .i64 c_1.E]] [ro m_0_Effectsv 1 (m_0.Effects.map (eInt .i64)),ro m_0_Codev 3 (m_0.Code.map z6.enc),ro c_1_Stackv 3 (c_1.Stack.map zj.enc),ro c_1_Slotsv 3 (c_1.Slots.map zj.enc),ro c_1_Loopsv 1 (c_1.Loops.map (eInt .i64)),ro c_1_Out_Edge_Headersv 2 (c_1.Out.Edge.Headers.map zp.enc),ro c_1_Out_Logsv 1 (c_1.Out.Logs.map eStr)] (fun v G=>∃ v0 v1 v2 v3 v4 v5 v6,v=boxP v6 0∧G=[row v0 3 (r.Cpu.Stack.map zj.enc),row v1 3 (r.Cpu.Slots.map zj.enc),row v2 1 (r.Cpu.Loops.map (eInt .i64)),row v3 2 (r.Cpu.Out.Edge.Headers.map zp.enc),row v4 1 (r.Cpu.Out.Logs.map eStr),ro v5 3 (r.code_.map z6.enc),box v6 [.int .i64 r.Cpu.At,v0,v1,v2,v3,.int .i64 r.Cpu.Out.Edge.Status,v4,.int .i64 r.Cpu.Out.End,.string (bs r.Cpu.Out.Text),.int .i64 r.Cpu.Spent,.bool r.Cpu.Over,.int .i64 r.Cpu.E,v5]])):=⟨Tryz.call32,by
 intros; rename_i h; unfold z6l at h
 exact dfn (.d [0,1,2,3,4,6,7,9,10,5,8,11,12,13,14,15,16,17,18,19,20,21,22,23] [9] [.t,.t,.t,.t,.t,.t,.t,.t,.t,.f,.f,.f,.t,.t,.t,.f,.t,.t,.t,.f,.t,.t,.t,.f] [] (.d [0,1,2,3,4,6,7,8,9,5,10,11,12,13,14,15,16,17,18,19,20,21] [9] [.t,.t,.t,.t,.t,.t,.t,.t,.t,.f,.f,.t,.t,.t,.t,.f,.t,.t,.t,.t,.t,.f] [] .e)) Tryz.func32 Tryz.ntmps32 Tryz.results32 h⟩
end Go.Proofs.YtgjcniomhahgkaaGreatDoor
namespace Go.Proofs.YtgjcniomhahgkaaGreatDoor
open Go.Abs
set_option maxRecDepth 20000
set_option maxHeartbeats 2000000
instance weirgate_machine_run_loop_84_k:Con Tryz.prog 84 0 (∀ {r_0:zi} {x_1:z6} {r_0b:Nat} {r_0_Cpu_Stackv:Value} {r_0_Cpu_Slotsv:Value} {r_0_Cpu_Loopsv:Value} {r_0_Cpu_Out_Edge_Headersv:Value} {r_0_Cpu_Out_Logsv:Value} {r_0_code_v:Value} {r:zi},z1Z r_0 x_1=some r→Meets Tryz.prog 84 [boxP r_0b 0,.agg #[.int .i64 x_1.Op,.int .i64 x_1.A,.string (bs x_1.S)]] [row r_0_Cpu_Stackv 3 (r_0.Cpu.Stack.map zj.enc),row r_0_Cpu_Slotsv 3 (r_0.Cpu.Slots.map zj.enc),row r_0_Cpu_Loopsv 1 (r_0.Cpu.Loops.map (eInt .i64)),row r_0_Cpu_Out_Edge_Headersv 2 (r_0.Cpu.Out.Edge.Headers.map zp.enc),row r_0_Cpu_Out_Logsv 1 (r_0.Cpu.Out.Logs.map eStr),ro r_0_code_v 3 (r_0.code_.map z6.enc),box r_0b [.int .i64 r_0.Cpu.At,r_0_Cpu_Stackv,r_0_Cpu_Slotsv,r_0_Cpu_Loopsv,r_0_Cpu_Out_Edge_Headersv,.int .i64 r_0.Cpu.Out.Edge.Status,r_0_Cpu_Out_Logsv,.int .i64 r_0.Cpu.Out.End,.string (bs r_0.Cpu.Out.Text),.int .i64 r_0.Cpu.Spent,.bool r_0.Cpu.Over,.int .i64 r_0.Cpu.E,r_0_code_v]] (fun v G=>∃ v0 v1 v2 v3 v4 v5,v = .tuple #[]∧G=[row v0 3 (r.Cpu.Stack.map zj.enc),row v1 3 (r.Cpu.Slots.map zj.enc),row v2 1 (r.Cpu.Loops.map (eInt .i64)),row v3 2 (r.Cpu.Out.Edge.Headers.map zp.enc),row v4 1 (r.Cpu.Out.Logs.map eStr),ro v5 3 (r.code_.map z6.enc),box r_0b [.int .i64 r.Cpu.At,v0,v1,v2,v3,.int .i64 r.Cpu.Out.Edge.Status,v4,.int .i64 r.Cpu.Out.End,.string (bs r.Cpu.Out.Text),.int .i64 r.Cpu.Spent,.bool r.Cpu.Over,.int .i64 r.Cpu.E,v5]])):=⟨Tryz.call84,by
 intros; rename_i h; unfold z1Z at h
 exact dfn (.d [0,1,2,3,4,5,6,7,8,9,10,11,12,13] [] [.n,.t,.t,.t,.t,.t,.t,.t,.f,.f,.t,.t,.t,.f] [[],[],[9],[],[],[],[13]] .e) Tryz.func84 Tryz.ntmps84 Tryz.results84 h⟩
instance weirgate_machine_run_turn_85_k:Con Tryz.prog 85 0 (∀ {r_0:zi} {x_1:z6} {r_0b:Nat} {r_0_Cpu_Stackv:Value} {r_0_Cpu_Slotsv:Value} {r_0_Cpu_Loopsv:Value} {r_0_Cpu_Out_Edge_Headersv:Value} {r_0_Cpu_Out_Logsv:Value} {r_0_code_v:Value} {r:zi},z1t r_0 x_1=some r→Meets Tryz.prog 85 [boxP r_0b 0,.agg #[.int .i64 x_1.Op,.int .i64 x_1.A,.string (bs x_1.S)]] [row r_0_Cpu_Stackv 3 (r_0.Cpu.Stack.map zj.enc),row r_0_Cpu_Slotsv 3 (r_0.Cpu.Slots.map zj.enc),row r_0_Cpu_Loopsv 1 (r_0.Cpu.Loops.map (eInt .i64)),row r_0_Cpu_Out_Edge_Headersv 2 (r_0.Cpu.Out.Edge.Headers.map zp.enc),row r_0_Cpu_Out_Logsv 1 (r_0.Cpu.Out.Logs.map eStr),ro r_0_code_v 3 (r_0.code_.map z6.enc),box r_0b [.int .i64 r_0.Cpu.At,r_0_Cpu_Stackv,r_0_Cpu_Slotsv,r_0_Cpu_Loopsv,r_0_Cpu_Out_Edge_Headersv,.int .i64 r_0.Cpu.Out.Edge.Status,r_0_Cpu_Out_Logsv,.int .i64 r_0.Cpu.Out.End,.string (bs r_0.Cpu.Out.Text),.int .i64 r_0.Cpu.Spent,.bool r_0.Cpu.Over,.int .i64 r_0.Cpu.E,r_0_code_v]] (fun v G=>∃ v0 v1 v2 v3 v4 v5,v = .tuple #[]∧G=[row v0 3 (r.Cpu.Stack.map zj.enc),row v1 3 (r.Cpu.Slots.map zj.enc),row v2 1 (r.Cpu.Loops.map (eInt .i64)),row v3 2 (r.Cpu.Out.Edge.Headers.map zp.enc),row v4 1 (r.Cpu.Out.Logs.map eStr),ro v5 3 (r.code_.map z6.enc),box r_0b [.int .i64 r.Cpu.At,v0,v1,v2,v3,.int .i64 r.Cpu.Out.Edge.Status,v4,.int .i64 r.Cpu.Out.End,.string (bs r.Cpu.Out.Text),.int .i64 r.Cpu.Spent,.bool r.Cpu.Over,.int .i64 r.Cpu.E,v5]])):=⟨Tryz.call85,by
 intros; rename_i h; unfold z1t at h
 exact dfn .e Tryz.func85 Tryz.ntmps85 Tryz.results85 h⟩
instance weirgate_machine_run_forget_86_k:Con Tryz.prog 86 0 (∀ {r_0:zi} {x_1:z6} {r_0b:Nat} {r_0_Cpu_Stackv:Value} {r_0_Cpu_Slotsv:Value} {r_0_Cpu_Loopsv:Value} {r_0_Cpu_Out_Edge_Headersv:Value} {r_0_Cpu_Out_Logsv:Value} {r_0_code_v:Value} {r:zi},z1N r_0 x_1=some r→Meets Tryz.prog 86 [boxP r_0b 0,.agg #[.int .i64 x_1.Op,.int .i64 x_1.A,.string (bs x_1.S)]] [row r_0_Cpu_Stackv 3 (r_0.Cpu.Stack.map zj.enc),row r_0_Cpu_Slotsv 3 (r_0.Cpu.Slots.map zj.enc),row r_0_Cpu_Loopsv 1 (r_0.Cpu.Loops.map (eInt .i64)),row r_0_Cpu_Out_Edge_Headersv 2 (r_0.Cpu.Out.Edge.Headers.map zp.enc),row r_0_Cpu_Out_Logsv 1 (r_0.Cpu.Out.Logs.map eStr),ro r_0_code_v 3 (r_0.code_.map z6.enc),box r_0b [.int .i64 r_0.Cpu.At,r_0_Cpu_Stackv,r_0_Cpu_Slotsv,r_0_Cpu_Loopsv,r_0_Cpu_Out_Edge_Headersv,.int .i64 r_0.Cpu.Out.Edge.Status,r_0_Cpu_Out_Logsv,.int .i64 r_0.Cpu.Out.End,.string (bs r_0.Cpu.Out.Text),.int .i64 r_0.Cpu.Spent,.bool r_0.Cpu.Over,.int .i64 r_0.Cpu.E,r_0_code_v]] (fun v G=>∃ v0 v1 v2 v3 v4 v5,v = .tuple #[]∧G=[row v0 3 (r.Cpu.Stack.map zj.enc),row v1 3 (r.Cpu.Slots.map zj.enc),row v2 1 (r.Cpu.Loops.map (eInt .i64)),row v3 2 (r.Cpu.Out.Edge.Headers.map zp.enc),row v4 1 (r.Cpu.Out.Logs.map eStr),ro v5 3 (r.code_.map z6.enc),box r_0b [.int .i64 r.Cpu.At,v0,v1,v2,v3,.int .i64 r.Cpu.Out.Edge.Status,v4,.int .i64 r.Cpu.Out.End,.string (bs r.Cpu.Out.Text),.int .i64 r.Cpu.Spent,.bool r.Cpu.Over,.int .i64 r.Cpu.E,v5]])):=⟨Tryz.call86,by
 intros; rename_i h; unfold z1N at h
 exact dfn (.d [0,1,2,3,4,6,7,5,8,9,10,11,12] [1,6] [.t,.t,.t,.t,.t,.t,.t,.f,.f,.t,.t,.t,.f] [] .e) Tryz.func86 Tryz.ntmps86 Tryz.results86 h⟩
instance machine_Begin_k:Con Tryz.prog 14 0 (∀ {e_0:zP} {e_0_Headersv:Value} {r:zN},z4K e_0=some r→Meets Tryz.prog 14 [.agg #[e_0_Headersv,.int .i64 e_0.Status]] [ro e_0_Headersv 2 (e_0.Headers.map zp.enc)] (fun v G=>∃ v0 v1 v2 v3 v4,v = .agg #[.int .i64 r.At,v0,v1,v2,v3,.int .i64 r.Out.Edge.Status,v4,.int .i64 r.Out.End,.string (bs r.Out.Text),.int .i64 r.Spent,.bool r.Over,.int .i64 r.E]∧G=[row v0 3 (r.Stack.map zj.enc),row v1 3 (r.Slots.map zj.enc),row v2 1 (r.Loops.map (eInt .i64)),row v3 2 (r.Out.Edge.Headers.map zp.enc),row v4 1 (r.Out.Logs.map eStr)])):=⟨Tryz.call14,by
 intros; rename_i h; unfold z4K at h
 exact dfn (.d [0,1,3,4,2,5,6,7,8] [2] [.t,.t,.t,.t,.f,.f,.f,.f,.f] [] .e) Tryz.func14 Tryz.ntmps14 Tryz.results14 h⟩
end Go.Proofs.YtgjcniomhahgkaaGreatDoor
