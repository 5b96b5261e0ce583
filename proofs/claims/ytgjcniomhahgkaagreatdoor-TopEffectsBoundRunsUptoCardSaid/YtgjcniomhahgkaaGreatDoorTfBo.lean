/-
  The walks: machine_Go, machine_Run, machine_Run_v1.
-/
import Derived.Test.YtgjcniomhahgkaaGreatDoorM11
import Derived.Test.YtgjcniomhahgkaaGreatDoorM9
import Derived.Test.YtgjcniomhahgkaaGreatDoorM39
import Derived.Test.YtgjcniomhahgkaaGreatDoorTfBn
set_option linter.unusedSimpArgs false
set_option linter.unusedVariables false
namespace Go.Proofs.YtgjcniomhahgkaaGreatDoor
open Go.Abs
set_option maxRecDepth 20000
set_option maxHeartbeats 2000000
instance machine_Go_k:Con Tryz.prog 13 0 (∀ {n:Nat} {m_0:zH} {c_1:zN} {most_2:Int} {m_0_Effectsv:Value} {m_0_Codev:Value} {c_1_Stackv:Value} {c_1_Slotsv:Value} {c_1_Loopsv:Value} {c_1_Out_Edge_Headersv:Value} {c_1_Out_Logsv:Value} {r:zN},z5c n m_0 c_1 most_2=some r→Meets Tryz.prog 13 [.agg #[.string (bs m_0.Name),m_0_Effectsv,m_0_Codev],.agg #[.int .i64 c_1.At,c_1_Stackv,c_1_Slotsv,c_1_Loopsv,c_1_Out_Edge_Headersv,.int .i64 c_1.Out.Edge.Status,c_1_Out_Logsv,.int .i64 c_1.Out.End,.string (bs c_1.Out.Text),.int .i64 c_1.Spent,.bool c_1.Over,.int .i64 c_1.E],.int .i64 most_2] [ro m_0_Effectsv 1 (m_0.Effects.map (eInt .i64)),ro m_0_Codev 3 (m_0.Code.map z6.enc),ro c_1_Stackv 3 (c_1.Stack.map zj.enc),ro c_1_Slotsv 3 (c_1.Slots.map zj.enc),ro c_1_Loopsv 1 (c_1.Loops.map (eInt .i64)),ro c_1_Out_Edge_Headersv 2 (c_1.Out.Edge.Headers.map zp.enc),ro c_1_Out_Logsv 1 (c_1.Out.Logs.map eStr)] (fun v G=>∃ v0 v1 v2 v3 v4,v = .agg #[.int .i64 r.At,v0,v1,v2,v3,.int .i64 r.Out.Edge.Status,v4,.int .i64 r.Out.End,.string (bs r.Out.Text),.int .i64 r.Spent,.bool r.Over,.int .i64 r.E]∧G=[row v0 3 (r.Stack.map zj.enc),row v1 3 (r.Slots.map zj.enc),row v2 1 (r.Loops.map (eInt .i64)),row v3 2 (r.Out.Edge.Headers.map zp.enc),row v4 1 (r.Out.Logs.map eStr)])):=⟨Tryz.call13,by
 intros; rename_i h; unfold z5c at h
 exact dfn (.j 6 [6,7] [] [.k 9,.b 23 [.t 1,.g 1,.g 3,.g 5,.g 7,.t 11,.g 9,.t 15,.t 17,.t 19,.t 21,.t 23,.g 10],.w 3 1,.w 5 3,.w 7 5,.w 9 7,.w 13 9,.o 24 10] (.l 6 [2,3,6,7,8] [] [.k 7,.k 0,.k 1,.k 9,.b 23 [.t 1,.g 1,.g 3,.g 5,.g 7,.t 11,.g 9,.t 15,.t 17,.t 19,.t 21,.t 23,.g 10],.w 3 1,.w 5 3,.w 7 5,.w 9 7,.w 13 9,.o 24 10,.k 17] .e) .e) Tryz.func13 Tryz.ntmps13 Tryz.results13 h⟩
instance machine_Run_k:Con Tryz.prog 15 0 (∀ {n:Nat} {m_0:zH} {e_1:zP} {most_2:Int} {m_0_Effectsv:Value} {m_0_Codev:Value} {e_1_Headersv:Value} {r:zA×Int},z66 n m_0 e_1 most_2=some r→Meets Tryz.prog 15 [.agg #[.string (bs m_0.Name),m_0_Effectsv,m_0_Codev],.agg #[e_1_Headersv,.int .i64 e_1.Status],.int .i64 most_2] [ro m_0_Effectsv 1 (m_0.Effects.map (eInt .i64)),ro m_0_Codev 3 (m_0.Code.map z6.enc),row e_1_Headersv 2 (e_1.Headers.map zp.enc)] (fun v G=>∃ v0 v1,v = .tuple #[.agg #[v0,.int .i64 r.1.Edge.Status,v1,.int .i64 r.1.End,.string (bs r.1.Text)],.int .i64 r.2]∧G=[row v0 2 (r.1.Edge.Headers.map zp.enc),row v1 1 (r.1.Logs.map eStr)])):=⟨Tryz.call15,by
 intros; rename_i h; unfold z66 at h
 exact dfn (.q (.f 0 (.f 1 (.f 3 (.b 2 (.b 4 (.o 5 (.o 6 .z)) (.o 5 (.o 4 (.o 6 .z)))) (.o 5 (.o 2 (.o 4 (.o 6 .z)))))))) [] [] (.c .e (.c (.d [0,1,2,3,4] [] [.t,.t,.t,.f,.t] [] .e) .e))) Tryz.func15 Tryz.ntmps15 Tryz.results15 h⟩
instance machine_Run_v1_k:Con Tryz.prog 15 1 (∀ {n:Nat} {m_0:zH} {e_1:zP} {most_2:Int} {m_0_Effectsv:Value} {m_0_Codev:Value} {e_1_Headersv:Value} {r:zA×Int},z5F n m_0 e_1 most_2=some r→Meets Tryz.prog 15 [.agg #[.string (bs m_0.Name),m_0_Effectsv,m_0_Codev],.agg #[e_1_Headersv,.int .i64 e_1.Status],.int .i64 most_2] [ro m_0_Effectsv 1 (m_0.Effects.map (eInt .i64)),ro m_0_Codev 3 (m_0.Code.map z6.enc),ro e_1_Headersv 2 (e_1.Headers.map zp.enc)] (fun v G=>∃ v0 v1,v = .tuple #[.agg #[v0,.int .i64 r.1.Edge.Status,v1,.int .i64 r.1.End,.string (bs r.1.Text)],.int .i64 r.2]∧G=[row v0 2 (r.1.Edge.Headers.map zp.enc),row v1 1 (r.1.Logs.map eStr)])):=⟨Tryz.call15,by
 intros; rename_i h; unfold z5F at h
 exact dfn (.q (.f 0 (.f 1 (.f 3 (.b 2 (.b 4 (.o 5 (.o 6 .z)) (.o 5 (.o 4 (.o 6 .z)))) (.o 5 (.o 2 (.o 4 (.o 6 .z)))))))) [] [] (.c .e (.c (.d [0,1,2,3,4] [] [.t,.t,.t,.f,.t] [] .e) .e))) Tryz.func15 Tryz.ntmps15 Tryz.results15 h⟩
end Go.Proofs.YtgjcniomhahgkaaGreatDoor
